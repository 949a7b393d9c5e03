/- Several texts in one: Pka Pkb Mc Md Tm Cv Fd Kn Cp Cq Same LawSe By LawOq Fq Ls Pse Byp Pop Poq Pos Kyb Ar2 Tk1. -/
import Derived.Test.YtgdojjniakpadaaGreatZd
import Derived.Test.YtgdojjniakpadaaGreatZe
set_option linter.unusedVariables false
set_option linter.unusedSimpArgs false
section
set_option linter.unusedVariables false
set_option linter.unusedSimpArgs false
set_option maxRecDepth 100000
namespace Go.Sx.Ep
open Go Go.Sx
theorem goE {τ R : Type} (F : (τ → Option R) → τ → Option R) (I : Nat → τ → Prop) (n : Nat) (r : Option R) (hn : n < 9223372036854775808) {s : τ} (h0 : I 0 s) (hs : ∀ j s, j < n → I j s → ∃ s', I (j + 1) s' ∧ ∀ rec, F rec s = rec s') (he : ∀ s, I n s → ∀ rec, F rec s = r) : Qr F Xb s = r :=
  Qii F I n r hs he n 0 Xb s (by omega) (Ki hn) h0
def be (x : BitVec 64) : Nat → List (BitVec 8)
  | 0 => []
  | k + 1 => ((x >>> (8 * k)).setWidth 8) :: be x k
theorem Vs (x : BitVec 64) : ∀ k, (be x k).length = k
  | 0 => rfl
  | k + 1 => by simp [be, Vs x k]
theorem Qtk (x : BitVec 64) : ∀ (k fuel : Nat) (out : List (BitVec 8)), k < fuel → k ≤ 1000 → out.length + k ≤ 1000000 → Qr (Eo x) fuel ((k : Int) - 1, out) = some ⟨out ++ be x k⟩
  | k, 0, _, hf, _, _ => by omega
  | 0, fuel + 1, out, _, _, _ => by
    rw [Zt]; simp only [Eo]; rw [if_neg (by omega)]; simp [be]
  | k + 1, fuel + 1, out, hf, hk, hl => by
    rw [Zt]; simp only [Eo]
    have e1 : Jq (Qi (8 * (((k + 1 : Nat) : Int) - 1))) = some (8 * k) := by
      rw [Xu (by omega) (by omega)]; unfold Jq; rw [if_pos (by omega)]; congr 1; omega
    rw [if_pos (by omega), e1, bind_some, Vd (by simp; omega), bind_some, Xu (by omega) (by omega)]
    have e2 : ((k + 1 : Nat) : Int) - 1 - 1 = (k : Int) - 1 := by omega
    rw [e2, Qtk x k fuel _ (by omega) (by omega) (by simp; omega)]
    simp [be]
theorem Ng (w : Kq) (x : BitVec 64) (k : Nat) {kk : Int} (hkk : kk = (k : Int)) (hk : k ≤ 1000) (hl : w.out.length + k ≤ 1000000) : De w x kk = some ⟨w.out ++ be x k⟩ := by
  subst hkk; unfold De
  rw [Xu (by omega) (by omega)]
  exact Qtk x k Xb _ (Ki (by omega)) hk hl
theorem Qsu (x : BitVec 64) : ∀ (k fuel : Nat) (out : List (BitVec 8)), k < fuel → k ≤ 1000 → out.length + k ≤ 1000000 → Qr (Iu x) fuel (out, (k : Int) - 1) = some (out ++ be x k)
  | k, 0, _, hf, _, _ => by omega
  | 0, fuel + 1, out, _, _, _ => by
    rw [Zt]; simp only [Iu]; rw [if_neg (by omega)]; simp [be]
  | k + 1, fuel + 1, out, hf, hk, hl => by
    rw [Zt]; simp only [Iu]
    have e1 : Jq (un (wd (Qi (8 * (((k + 1 : Nat) : Int) - 1))))) = some (8 * k) := by
      rw [Xu (by omega) (by omega), Og _ (by omega) (by omega)]; unfold Jq; rw [if_pos (by omega)]; congr 1; omega
    rw [if_pos (by omega), e1, bind_some, Vd (by simp; omega), bind_some, Xu (by omega) (by omega)]
    have e2 : ((k + 1 : Nat) : Int) - 1 - 1 = (k : Int) - 1 := by omega
    rw [e2, Qsu x k fuel _ (by omega) (by omega) (by simp; omega)]
    simp [be]
theorem Qbj (l : List (BitVec 8)) (x : BitVec 64) (k : Nat) {kk : Int} (hkk : kk = (k : Int)) (hk : k ≤ 1000) (hl : l.length + k ≤ 1000000) : Sl l x kk = some (l ++ be x k) := by
  subst hkk; unfold Sl
  rw [Xu (by omega) (by omega)]
  exact Qsu x k Xb _ (Ki (by omega)) hk hl
theorem be1 (x : BitVec 64) : be x 1 = [x.setWidth 8] := by simp [be]
theorem Qp5 (x : BitVec 8) : be (x.setWidth 64) 1 = [x] := by
  rw [be1]; congr 1
  apply BitVec.eq_of_toNat_eq
  rw [BitVec.toNat_setWidth, BitVec.toNat_setWidth]; have := x.isLt; omega
theorem Qhi (n : Int) : be (wd n) 1 = [Vr n] := by
  rw [be1]; congr 1
  apply BitVec.eq_of_toNat_eq
  unfold wd Vr
  rw [BitVec.toNat_setWidth, BitVec.toNat_ofInt, BitVec.toNat_ofInt]; omega
def Wk (x : Zd) : Prop := (0 ≤ x.Subset.Node ∧ x.Subset.Node ≤ 127) ∧ 0 ≤ x.Subset.Minus ∧ x.Subset.Minus ≤ 127
instance (x : Zd) : Decidable (Wk x) := by unfold Wk; infer_instance
def Bh (h : Zi) : Prop := h.Items = [] ∧ h.Points = [] ∧ h.Base = 0#64 ∧ h.Box = k0 ∧ h.Check = k0
instance (h : Zi) : Decidable (Bh h) := by unfold Bh; infer_instance
def Bj (p : Ze) : Prop := (0 ≤ p.Epoch ∧ p.Epoch ≤ 1099511627776) ∧ p.Low = 0#8 ∧ p.Number = 0#64 ∧ p.Data = [] ∧ p.Head.Items.length ≤ 64 ∧ p.Head.Points.length ≤ 8 ∧ ∀ x ∈ p.Head.Items, Wk x
instance (p : Ze) : Decidable (Bj p) := by unfold Bj; infer_instance
def Bi (p : Ze) : Prop := p.Epoch = 0 ∧ p.Low < 4#8 ∧ p.Data.length ≤ 256 ∧ Bh p.Head
instance (p : Ze) : Decidable (Bi p) := by unfold Bi; infer_instance
def VP (p : Ze) : Prop := (p.Kind = 1#8 ∧ Bj p) ∨ (p.Kind = 2#8 ∧ Bi p)
instance (p : Ze) : Decidable (VP p) := by unfold VP; infer_instance
theorem ixf (l : List Zd) (hl : l.length < 4611686018427387904) : ∀ (m i fuel : Nat), l.length - i = m → i ≤ l.length → m < fuel → ∃ r, Qr (Oc l) fuel (i : Int) = some r ∧ (0 ≤ r ↔ ¬ ∀ x ∈ l.drop i, Wk x)
  | m, i, 0, _, _, hf => by omega
  | 0, i, fuel + 1, hm, hi, hf => by
    rw [Zt]; simp only [Oc]
    rw [if_neg (by omega), List.drop_eq_nil_of_le (by omega)]
    exact ⟨_, rfl, by simp⟩
  | m + 1, i, fuel + 1, hm, hi, hf => by
    have hil : i < l.length := by omega
    rw [Zt]; simp only [Oc]
    have e : Qea l[i] = some (decide (¬ Wk l[i])) := by
      have h1 : Hh l[i].Subset.Node l[i].Subset.Minus < 0 ↔ (l[i].Subset.Node < 0 ∨ l[i].Subset.Minus < 0) := by unfold Hh; split <;> omega
      have h2 : 127 < Di l[i].Subset.Node l[i].Subset.Minus ↔ (127 < l[i].Subset.Node ∨ 127 < l[i].Subset.Minus) := by unfold Di; split <;> omega
      unfold Qea
      by_cases c : Hh l[i].Subset.Node l[i].Subset.Minus < 0
      · rw [if_pos c, decide_eq_true]; rw [h1] at c; unfold Wk; omega
      · rw [if_neg c]; rw [h1] at c; congr 1; apply Bool.eq_iff_iff.2; rw [decide_eq_true_iff, decide_eq_true_iff, h2]; unfold Wk; omega
    have hd : (∀ x ∈ l.drop i, Wk x) ↔ Wk l[i] ∧ ∀ x ∈ l.drop (i + 1), Wk x := by rw [List.drop_eq_getElem_cons hil, List.forall_mem_cons]
    rw [if_pos (by omega), Kd hil, bind_some, e, bind_some, hd]
    by_cases ho : Wk l[i]
    · rw [decide_eq_false (fun h => h ho), cond_false, Wp (by omega)]
      obtain ⟨r, h1, h2⟩ := ixf l hl m (i + 1) fuel (by omega) (by omega) (by omega)
      exact ⟨r, h1, by rw [h2]; exact ⟨fun h h' => h h'.2, fun h h' => h ⟨ho, h'⟩⟩⟩
    · rw [decide_eq_true ho, cond_true]
      exact ⟨_, rfl, ⟨fun _ h => ho h.1, fun _ => by omega⟩⟩
theorem Qim (l : List Zd) (hl : l.length < 4611686018427387904) : Qgx l = some (!decide (∀ x ∈ l, Wk x)) := by
  unfold Qgx Qk0
  obtain ⟨r, h1, h2⟩ := ixf l hl _ 0 Xb rfl (by omega) (Ki (by omega))
  rw [show (0 : Int) = ((0 : Nat) : Int) from rfl, h1, bind_some]
  congr 1
  have h3 : ((0 : Nat) : Int) ≤ r ↔ ¬ ∀ x ∈ l, Wk x := by rw [List.drop_zero] at h2; exact h2
  by_cases h : ∀ x ∈ l, Wk x
  · rw [decide_eq_true h, decide_eq_false (fun h4 => h3.1 h4 h)]; rfl
  · rw [decide_eq_false h, decide_eq_true (h3.2 h)]; rfl
theorem Qit {α : Type} (l : List α) : ((l.length : Int) = 0) ↔ l = [] := by
  cases l with
  | nil => simp
  | cons a l => simp; omega
theorem Qwn (p : Ze) (hl : p.Head.Items.length < 4611686018427387904) : Qap p = some (if VP p then 0 else 8) := by
  have h1 : Qap p = Fi p (decide (Bh p.Head)) := by
    unfold Qap Bh
    simp only [Qit]
    repeat' split
    all_goals simp [*]
  have h2 : ∀ b : Bool, Du b = some (if b = true then 0 else 8) := fun b => by cases b <;> rfl
  rw [h1]
  unfold Fi
  simp only [h2]
  by_cases hk : p.Kind = 1#8
  · rw [if_pos hk]
    have e : Fj p.Epoch = some (decide (0 ≤ p.Epoch ∧ p.Epoch ≤ 1099511627776)) := by
      unfold Fj; split <;> simp [*]
    rw [e, bind_some, Qim _ hl]
    have hv : VP p ↔ Bj p := by unfold VP; rw [hk]; simp
    simp only [hv, Bj, bind_some, Qit]
    by_cases c1 : (0 ≤ p.Epoch ∧ p.Epoch ≤ 1099511627776)
    · rw [decide_eq_true c1, cond_true]
      by_cases c2 : p.Low = 0#8
      · by_cases c3 : p.Number = 0#64
        · by_cases c4 : p.Data = []
          · by_cases c5 : p.Head.Items.length ≤ 64
            · by_cases c6 : p.Head.Points.length ≤ 8
              · rw [if_pos c2, if_pos c3, if_pos c4, if_pos (by omega), if_pos (by omega)]
                by_cases c7 : ∀ x ∈ p.Head.Items, Wk x
                · rw [decide_eq_true c7, if_pos (by rfl), if_pos ⟨c1, c2, c3, c4, c5, c6, c7⟩]
                · rw [decide_eq_false c7, if_neg (by simp), if_neg (fun h => c7 h.2.2.2.2.2.2)]
              · rw [if_pos c2, if_pos c3, if_pos c4, if_pos (by omega), if_neg (by omega), if_neg (by simp), if_neg (fun h => c6 h.2.2.2.2.2.1)]
            · rw [if_pos c2, if_pos c3, if_pos c4, if_neg (by omega), if_neg (by simp), if_neg (fun h => c5 h.2.2.2.2.1)]
          · rw [if_pos c2, if_pos c3, if_neg c4, if_neg (by simp), if_neg (fun h => c4 h.2.2.2.1)]
        · rw [if_pos c2, if_neg c3, if_neg (by simp), if_neg (fun h => c3 h.2.2.1)]
      · rw [if_neg c2, if_neg (by simp), if_neg (fun h => c2 h.2.1)]
    · rw [decide_eq_false c1, cond_false, if_neg (by simp), if_neg (fun h => c1 h.1)]
  · rw [if_neg hk]
    by_cases hk2 : p.Kind = 2#8
    · rw [if_pos hk2]
      have hv : VP p ↔ Bi p := by unfold VP; rw [hk2]; simp
      simp only [hv, Bi]
      by_cases c1 : p.Epoch = 0
      · by_cases c2 : p.Low < 4#8
        · by_cases c3 : p.Data.length ≤ 256
          · rw [if_pos c1, if_pos c2, if_pos (by omega)]
            by_cases c4 : Bh p.Head
            · rw [decide_eq_true c4, if_pos rfl, if_pos ⟨c1, c2, c3, c4⟩]
            · rw [decide_eq_false c4, if_neg (by simp), if_neg (fun h => c4 h.2.2.2)]
          · rw [if_pos c1, if_pos c2, if_neg (by omega), if_neg (by simp), if_neg (fun h => c3 h.2.2.1)]
        · rw [if_pos c1, if_neg c2, if_neg (by simp), if_neg (fun h => c2 h.2.1)]
      · rw [if_neg c1, if_neg (by simp), if_neg (fun h => c1 h.1)]
    · rw [if_neg hk2, if_neg (by simp), if_neg]
      rintro (h | h)
      · exact hk h.1
      · exact hk2 h.1
theorem rix (p : Ze) (hl : p.Head.Items.length < 4611686018427387904) : ∀ (m i fuel : Nat), p.Head.Items.length - i = m → i ≤ p.Head.Items.length → m < fuel → Qr (It p) fuel (i : Int) = some (decide (∀ x ∈ p.Head.Items.drop i, Wk x))
  | m, i, 0, _, _, hf => by omega
  | 0, i, fuel + 1, hm, hi, hf => by
    rw [Zt]; simp only [It]
    rw [if_neg (by omega), List.drop_eq_nil_of_le (by omega)]; simp
  | m + 1, i, fuel + 1, hm, hi, hf => by
    have hil : i < p.Head.Items.length := by omega
    rw [Zt]; simp only [It]
    have hd : (∀ x ∈ p.Head.Items.drop i, Wk x) ↔ Wk p.Head.Items[i] ∧ ∀ x ∈ p.Head.Items.drop (i + 1), Wk x := by rw [List.drop_eq_getElem_cons hil, List.forall_mem_cons]
    rw [if_pos (by omega), Kd hil, bind_some]
    simp only [hd]
    have e : ∀ rec : Int → Option Bool, (if p.Head.Items[i].Subset.Node < 0 then Nk (i : Int) rec true else if (127 : Int) < p.Head.Items[i].Subset.Node then Nk (i : Int) rec true else if p.Head.Items[i].Subset.Minus < 0 then Nk (i : Int) rec true else Nk (i : Int) rec (decide ((127 : Int) < p.Head.Items[i].Subset.Minus))) = Nk (i : Int) rec (decide (¬ Wk p.Head.Items[i])) := fun rec => by
      unfold Wk
      repeat' split
      all_goals congr 1
      all_goals first | (symm; apply decide_eq_true; omega) | (apply Bool.eq_iff_iff.2; rw [decide_eq_true_iff, decide_eq_true_iff]; omega)
    rw [e]
    unfold Nk
    by_cases ho : Wk p.Head.Items[i]
    · rw [decide_eq_false (by simp [ho]), cond_false, Wp (by omega), rix p hl m (i + 1) fuel (by omega) (by omega) (by omega)]
      congr 1; apply Bool.eq_iff_iff.2; rw [decide_eq_true_iff, decide_eq_true_iff]; exact ⟨fun h => ⟨ho, h⟩, fun h => h.2⟩
    · rw [decide_eq_true (by simp [ho]), cond_true, decide_eq_false (fun h => ho h.1)]
theorem Xeb (p : Ze) (hl : p.Head.Items.length < 4611686018427387904) : Qgl p = some (decide (VP p)) := by
  have hb : Qgn p.Head = some (decide (Bh p.Head)) := by
    unfold Qgn Bh
    simp only [Qit]
    repeat' split
    all_goals simp [*]
  have hj : ∀ b, Lj p b = some (!b && decide (∀ x ∈ p.Head.Items, Wk x)) := fun b => by
    unfold Lj
    cases b with
    | true => rfl
    | false =>
      have := rix p hl _ 0 Xb rfl (by omega) (Ki (by omega))
      rw [cond_false, show (0 : Int) = ((0 : Nat) : Int) from rfl, this]; simp
  unfold Qgl
  simp only [hj, hb, bind_some]
  by_cases hk2 : p.Kind = 2#8
  · have hv : VP p ↔ Bi p := by unfold VP; rw [hk2]; simp
    have h3 : p.Low ≤ 3#8 ↔ p.Low < 4#8 := by rw [BitVec.le_def, BitVec.lt_def]; show p.Low.toNat ≤ 3 ↔ p.Low.toNat < 4; omega
    rw [if_pos hk2]
    simp only [hv, Bi, h3]
    by_cases c2 : p.Low < 4#8
    · by_cases c3 : p.Data.length ≤ 256
      · by_cases c1 : p.Epoch = 0
        · rw [if_pos c2, if_pos (by omega), if_pos c1]; simp [c1, c2, c3]
        · rw [if_pos c2, if_pos (by omega), if_neg c1]; simp [c1]
      · rw [if_pos c2, if_neg (by omega)]; simp [c3]
    · rw [if_neg c2]; simp [c2]
  · rw [if_neg hk2]
    by_cases hk : p.Kind = 1#8
    · have hv : VP p ↔ Bj p := by unfold VP; rw [hk]; simp
      rw [if_neg (by simp [hk])]
      have e : Ru p.Epoch = some (decide (0 ≤ p.Epoch ∧ p.Epoch ≤ 1099511627776)) := by
        unfold Ru; split <;> simp [*]
      rw [e, bind_some]
      simp only [hv, Bj]
      by_cases c1 : (0 ≤ p.Epoch ∧ p.Epoch ≤ 1099511627776)
      · rw [decide_eq_true c1]
        have hz : ∀ l : List (BitVec 8), (0 : Int) < (l.length : Int) ↔ l ≠ [] := fun l => by rw [ne_eq, ← Qit]; omega
        simp only [hz]
        by_cases c2 : p.Low = 0#8
        · by_cases c3 : p.Number = 0#64
          · by_cases c4 : p.Data = []
            · by_cases c5 : p.Head.Items.length ≤ 64
              · have c5' : ¬ (64 : Int) < (p.Head.Items.length : Int) := by omega
                by_cases c6 : p.Head.Points.length ≤ 8
                · have c6' : ¬ (8 : Int) < (p.Head.Points.length : Int) := by omega
                  simp [c1, c2, c3, c4, c5, c6, c5', c6']
                · have c6' : (8 : Int) < (p.Head.Points.length : Int) := by omega
                  simp [c1, c2, c3, c4, c5, c6, c5', c6']
              · have c5' : (64 : Int) < (p.Head.Items.length : Int) := by omega
                simp [c2, c3, c4, c5, c5']
            · simp [c2, c3, c4]
          · simp [c2, c3]
        · simp [c2]
      · rw [decide_eq_false c1]; simp [c1]
    · rw [if_pos hk]
      have hv : ¬ VP p := by
        rintro (h | h)
        · exact hk h.1
        · exact hk2 h.1
      simp [hv]
def Ta (x : Zd) : List (BitVec 8) := [Vr x.Subset.Node, Vr x.Subset.Minus] ++ Xz x.Box
def Vg (x : Qu) : List (BitVec 8) := be x.X 8 ++ be x.Y 8
def Lq (p : Ze) : List (BitVec 8) :=
  [p.Kind] ++ (if p.Kind = 2#8 then [p.Low] ++ (be p.Number 8 ++ (be (wd (p.Data.length : Int)) 2 ++ p.Data))
  else be (wd p.Epoch) 8 ++ ([Vr (p.Head.Items.length : Int)] ++ (p.Head.Items.flatMap Ta ++ (be p.Head.Base 8 ++ ([Vr (p.Head.Points.length : Int)] ++ (p.Head.Points.flatMap Vg ++ (Xz p.Head.Box ++ Xz p.Head.Check)))))))
def Sm (p : Ze) : Prop := p.Head.Items.length ≤ 1000 ∧ p.Head.Points.length ≤ 1000 ∧ p.Data.length ≤ 100000
theorem Qmm (x : Zd) : (Ta x).length = 18 := rfl
theorem Qnf (x : Qu) : (Vg x).length = 16 := by simp [Vg, Vs]
theorem Ev {α : Type} (f : α → List (BitVec 8)) (c : Nat) (hf : ∀ a, (f a).length = c) : ∀ l : List α, (l.flatMap f).length = c * l.length
  | [] => by simp
  | a :: l => by rw [List.flatMap_cons, List.length_append, hf, Ev f c hf l, List.length_cons, Nat.mul_add, Nat.mul_one, Nat.add_comm]
theorem Qik {α : Type} (f : α → List (BitVec 8)) (l : List α) (j : Nat) (h : j < l.length) : (l.take (j + 1)).flatMap f = (l.take j).flatMap f ++ f l[j] := by rw [Gi l j h, List.flatMap_append]; simp
theorem Qp9 (p : Ze) (hs : Sm p) : Qav p = some (Lq p) := by
  obtain ⟨s1, s2, s3⟩ := hs
  unfold Qav
  rw [Ng (kk := 1) _ _ 1 rfl (by omega) (by simp), bind_some, Qp5]
  unfold Lq
  by_cases hk : p.Kind = 2#8
  · rw [if_pos hk, if_pos hk, Ng (kk := 1) _ _ 1 rfl (by omega) (by simp), bind_some, Qp5, Ng (kk := 8) _ _ 8 rfl (by omega) (by simp), bind_some, Ng (kk := 2) _ _ 2 rfl (by omega) (by simp [Vs]), bind_some, Vd (by simp [Vs]; omega), bind_some]
    simp
  · rw [if_neg hk, if_neg hk, Ng (kk := 8) _ _ 8 rfl (by omega) (by simp), bind_some, Ng (kk := 1) _ _ 1 rfl (by omega) (by simp [Vs]), bind_some, Qhi]
    have hI : ∀ j, ((p.Head.Items.take j).flatMap Ta).length ≤ 18000 := fun j => by rw [Ev Ta 18 Qmm, List.length_take]; omega
    have hP : ∀ j, ((p.Head.Points.take j).flatMap Vg).length ≤ 16000 := fun j => by rw [Ev Vg 16 Qnf, List.length_take]; omega
    refine goE _ (fun j x => x = ((j : Int), (⟨[] ++ [p.Kind] ++ be (wd p.Epoch) 8 ++ [Vr (p.Head.Items.length : Int)] ++ (p.Head.Items.take j).flatMap Ta⟩ : Kq))) p.Head.Items.length _ (by omega) (by simp) ?_ ?_
    · rintro j _ hj rfl
      refine ⟨_, rfl, fun rec => ?_⟩
      have := hI j
      simp only [Qaw]
      rw [if_pos (by omega), Kd hj, bind_some, Ng (kk := 1) _ _ 1 rfl (by omega) (by simp only [List.length_append, Vs, List.length_cons, List.length_nil, Kj]; omega), bind_some, Qhi, Ng (kk := 1) _ _ 1 rfl (by omega) (by simp only [List.length_append, Vs, List.length_cons, List.length_nil, Kj]; omega), bind_some, Qhi]
      unfold Em
      rw [Vd (by simp only [List.length_append, Vs, List.length_cons, List.length_nil, Kj]; omega), bind_some, bind_some, Wp (by omega), Qik Ta _ _ hj]
      simp only [Ta, List.append_assoc, List.singleton_append, List.cons_append, List.nil_append]
    · rintro _ rfl rec
      have := hI p.Head.Items.length
      simp only [Qaw]
      rw [List.take_length] at this ⊢
      rw [if_neg (by omega), Ng (kk := 8) _ _ 8 rfl (by omega) (by simp only [List.length_append, Vs, List.length_cons, List.length_nil, Kj]; omega), bind_some, Ng (kk := 1) _ _ 1 rfl (by omega) (by simp only [List.length_append, Vs, List.length_cons, List.length_nil, Kj]; omega), bind_some, Qhi]
      refine goE _ (fun j x => x = ((j : Int), (⟨[] ++ [p.Kind] ++ be (wd p.Epoch) 8 ++ [Vr (p.Head.Items.length : Int)] ++ p.Head.Items.flatMap Ta ++ be p.Head.Base 8 ++ [Vr (p.Head.Points.length : Int)] ++ (p.Head.Points.take j).flatMap Vg⟩ : Kq))) p.Head.Points.length _ (by omega) (by simp) ?_ ?_
      · rintro j _ hj rfl
        refine ⟨_, rfl, fun rec => ?_⟩
        have h2 := hP j
        simp only [Qax]
        rw [if_pos (by omega), Kd hj, bind_some, Ng (kk := 8) _ _ 8 rfl (by omega) (by simp only [List.length_append, Vs, List.length_cons, List.length_nil]; omega), bind_some, Ng (kk := 8) _ _ 8 rfl (by omega) (by simp only [List.length_append, Vs, List.length_cons, List.length_nil]; omega), bind_some, Wp (by omega), Qik Vg _ _ hj]
        simp only [Vg, List.append_assoc]
      · rintro _ rfl rec
        have h2 := hP p.Head.Points.length
        simp only [Qax]
        unfold Em
        rw [if_neg (by omega), Vd (by simp only [List.length_append, Vs, List.length_cons, List.length_nil, Kj]; omega), bind_some, bind_some, Vd (by simp only [List.length_append, Vs, List.length_cons, List.length_nil, Kj]; omega), bind_some, bind_some, List.take_length]
        simp only [List.append_assoc, List.nil_append]
theorem Qto (p : Ze) (hs : Sm p) : Qch p = some (Lq p) := by
  obtain ⟨s1, s2, s3⟩ := hs
  unfold Qch Lq
  by_cases hk : p.Kind = 2#8
  · rw [if_pos hk, if_pos hk, Vd (by simp), bind_some, Qbj (kk := 8) _ _ 8 rfl (by omega) (by simp), bind_some, Qbj (kk := 2) _ _ 2 rfl (by omega) (by simp [Vs]), bind_some, Vd (by simp [Vs]; omega), bind_some]
    simp
  · rw [if_neg hk, if_neg hk, Qbj (kk := 8) _ _ 8 rfl (by omega) (by simp), bind_some, Vd (by simp [Vs]), bind_some]
    have hI : ∀ j, ((p.Head.Items.take j).flatMap Ta).length ≤ 18000 := fun j => by rw [Ev Ta 18 Qmm, List.length_take]; omega
    have hP : ∀ j, ((p.Head.Points.take j).flatMap Vg).length ≤ 16000 := fun j => by rw [Ev Vg 16 Qnf, List.length_take]; omega
    refine goE _ (fun j x => x = ([p.Kind] ++ be (wd p.Epoch) 8 ++ [Vr (p.Head.Items.length : Int)] ++ (p.Head.Items.take j).flatMap Ta, (j : Int))) p.Head.Items.length _ (by omega) (by simp) ?_ ?_
    · rintro j _ hj rfl
      refine ⟨_, rfl, fun rec => ?_⟩
      have := hI j
      simp only [Qci]
      rw [if_pos (by omega), Kd hj, bind_some, Vd (by simp only [List.length_append, Vs, List.length_cons, List.length_nil, Kj]; omega), bind_some, Vd (by simp only [List.length_append, Vs, List.length_cons, List.length_nil, Kj]; omega), bind_some, Wp (by omega), Qik Ta _ _ hj]
      simp only [Ta, List.append_assoc]
    · rintro _ rfl rec
      have := hI p.Head.Items.length
      simp only [Qci]
      rw [if_neg (by omega), Qbj (kk := 8) _ _ 8 rfl (by omega) (by simp only [List.length_append, Vs, List.length_cons, List.length_nil]; omega), bind_some, Vd (by simp only [List.length_append, Vs, List.length_cons, List.length_nil]; omega), bind_some, List.take_length]
      rw [List.take_length] at this
      refine goE _ (fun j x => x = ([p.Kind] ++ be (wd p.Epoch) 8 ++ [Vr (p.Head.Items.length : Int)] ++ p.Head.Items.flatMap Ta ++ be p.Head.Base 8 ++ [Vr (p.Head.Points.length : Int)] ++ (p.Head.Points.take j).flatMap Vg, (j : Int))) p.Head.Points.length _ (by omega) (by simp) ?_ ?_
      · rintro j _ hj rfl
        refine ⟨_, rfl, fun rec => ?_⟩
        have h2 := hP j
        simp only [Qcj]
        rw [if_pos (by omega), Kd hj, bind_some, Qbj (kk := 8) _ _ 8 rfl (by omega) (by simp only [List.length_append, Vs, List.length_cons, List.length_nil]; omega), bind_some, bind_some, Qbj (kk := 8) _ _ 8 rfl (by omega) (by simp only [List.length_append, Vs, List.length_cons, List.length_nil]; omega), bind_some, Wp (by omega), Qik Vg _ _ hj]
        simp only [Vg, List.append_assoc]
      · rintro _ rfl rec
        have h2 := hP p.Head.Points.length
        simp only [Qcj]
        rw [if_neg (by omega), Vd (by simp only [List.length_append, Vs, List.length_cons, List.length_nil, Kj]; omega), bind_some, Vd (by simp only [List.length_append, Vs, List.length_cons, List.length_nil, Kj]; omega), bind_some, List.take_length]
        simp only [List.append_assoc]
end Go.Sx.Ep

end
section
set_option linter.unusedVariables false
set_option linter.unusedSimpArgs false
set_option maxRecDepth 100000
namespace Go.Sx.Ep
open Go Go.Sx
abbrev By := List (BitVec 8)
def Kw (l : By) : BitVec 64 := l.foldl (fun n c => 256#64 * n + c.setWidth 64) 0#64
theorem Mm (a : BitVec 64) (c : BitVec 8) : (a <<< 8) ||| (c.setWidth 64) = 256#64 * a + c.setWidth 64 := by
  have e1 : 256#64 * a = a <<< 8 := by
    apply BitVec.eq_of_toNat_eq
    rw [BitVec.toNat_mul, BitVec.toNat_shiftLeft, Nat.shiftLeft_eq, Nat.mul_comm]; rfl
  rw [e1]
  symm
  apply BitVec.add_eq_or_of_and_eq_zero
  apply BitVec.eq_of_getLsbD_eq
  intro j hj
  rw [BitVec.getLsbD_and, BitVec.getLsbD_shiftLeft, BitVec.getLsbD_setWidth, BitVec.getLsbD_zero]
  by_cases h : j < 8
  · simp [h]
  · simp [BitVec.getLsbD_of_ge c j (by omega)]
theorem Bb (l : By) (c : BitVec 8) : Kw (l ++ [c]) = 256#64 * Kw l + c.setWidth 64 := by simp [Kw]
def st : Option By → Uk
  | some t => ⟨t, false⟩
  | none => ⟨[], true⟩
def pN (n : Nat) : Option By → By × Option By
  | some t => if n ≤ t.length then (t.take n, some (t.drop n)) else (List.replicate n 0#8, none)
  | none => (List.replicate n 0#8, none)
def pK (o : Option By) : W2 × Option By := (Yh (pN 16 o).1, (pN 16 o).2)
theorem Qiw (p : W2) : Yh (Xz p) = p := by have := Qn2 p []; rwa [List.append_nil] at this
theorem Qmq {l : By} (h : l.length = 16) : Xz (Yh l) = l := by rw [Aa (by omega), List.take_of_length_le (by omega)]
def zP : Ze := Ze.mk 0#8 0 (Zi.mk [] 0#64 [] k0 k0) 0#8 0#64 [] k0
def Ld (k : BitVec 8) (ep : Int) (hd : Zi) (lo : BitVec 8) (nu : BitVec 64) (da : By) (o : Option By) : Ze × Int :=
  if (pK o).2 = some [] ∧ VP ⟨k, ep, hd, lo, nu, da, (pK o).1⟩ then (⟨k, ep, hd, lo, nu, da, (pK o).1⟩, 0) else (zP, 8)
theorem Qd5 (x : BitVec 64) : wd ((x.toNat : Nat) : Int) = x := by
  apply BitVec.eq_of_toNat_eq; unfold wd; rw [BitVec.toNat_ofInt]; have := x.isLt; omega
end Go.Sx.Ep

end
section
set_option linter.unusedVariables false
set_option linter.unusedSimpArgs false
set_option maxRecDepth 100000
namespace Go.Sx.Ep
open Go Go.Sx
section
variable {α : Type}
theorem Qbf {A Z : List α} (h : A.length = Z.length) {j : Nat} (hj : j < A.length) : (Z.take j ++ A.drop j)[j]? = A[j]? := by
  rw [List.getElem?_append_right (by simp; omega), List.length_take, Nat.min_eq_left (by omega), Nat.sub_self, List.getElem?_drop, Nat.add_zero]
theorem Qbh {A Z : List α} (h : A.length = Z.length) {j : Nat} (hj : j < A.length) {z : α} (hz : Z[j]? = some z) : (Z.take j ++ A.drop j).set j z = Z.take (j + 1) ++ A.drop (j + 1) := by
  rw [List.set_append_right _ _ (by simp; omega), List.length_take, Nat.min_eq_left (by omega), Nat.sub_self, List.drop_eq_getElem_cons hj, List.set_cons_zero, List.take_add_one, hz, List.append_assoc]; rfl
theorem Qbg {A Z : List α} (h : A.length = Z.length) {j : Nat} (hj : j ≤ A.length) : (Z.take j ++ A.drop j).length = A.length := by simp; omega
end
theorem Qb9 {L : List (BitVec 8)} (hL : L.length = 16) {i : Nat} {b : BitVec 8} (h : L[i]? = some b) : Xt (Xz (Yh L)) (i : Int) = some b := by
  have := (List.getElem?_eq_some_iff.1 h).1
  rw [Qmq hL]; unfold Xt; rw [if_pos (by omega), Int.toNat_natCast, h]
theorem Qgu {L : List (BitVec 8)} (hL : L.length = 16) {i : Nat} (hi : i < 16) (b : BitVec 8) : Ti (Yh L) (i : Int) b = some (Yh (L.set i b)) := by
  unfold Ti; rw [if_pos (by omega), Qmq hL, Int.toNat_natCast]
def Lo (a b : W2) : By := List.zipWith (· ^^^ ·) (Xz a) (Xz b)
def xr (a b : W2) : W2 := Yh (Lo a b)
theorem Qd6 (a b : W2) : (Lo a b).length = 16 := by simp [Lo, Kj]
theorem Xii {A B : By} (hA : A.length = 16) (hB : B.length = 16) {j : Nat} (hj : j < 16) : ∃ x y, A[j]? = some x ∧ B[j]? = some y ∧ (List.zipWith (· ^^^ ·) A B)[j]? = some (x ^^^ y) := by
  have h1 : j < A.length := by omega
  have h2 : j < B.length := by omega
  exact ⟨A[j], B[j], List.getElem?_eq_getElem h1, List.getElem?_eq_getElem h2, by rw [List.getElem?_zipWith, List.getElem?_eq_getElem h1, List.getElem?_eq_getElem h2]⟩
theorem Qki (a b : W2) {j : Nat} (hj : j < 16) : ∃ x y, (Xz a)[j]? = some x ∧ (Xz b)[j]? = some y ∧ (Lo a b)[j]? = some (x ^^^ y) := Xii (Kj a) (Kj b) hj
theorem Xif (a : W2) : xr a a = k0 := by
  have : Lo a a = List.replicate 16 0#8 := by
    refine List.ext_getElem? fun j => ?_
    by_cases hj : j < 16
    · obtain ⟨x, y, h1, h2, h3⟩ := Qki a a hj
      rw [h1] at h2; cases h2
      rw [h3, List.getElem?_replicate, if_pos hj, BitVec.xor_self]
    · rw [List.getElem?_eq_none (by rw [Qd6]; omega), List.getElem?_eq_none (by simp; omega)]
  unfold xr; rw [this]; decide +kernel
theorem Xie (a b : W2) : Qdn a b = some (xr a b) := by
  unfold Qdn
  by_cases h : a = b
  · rw [if_pos h, h, Xif]
  rw [if_neg h]
  have hl : (Xz a).length = (Lo a b).length := by rw [Qd6, Kj]
  refine Dz _ (fun j s => s = ((j : Int), Yh ((Lo a b).take j ++ (Xz a).drop j))) 16 _ (by omega) ?_ ?_ ?_
  · rw [List.take_zero, List.nil_append, List.drop_zero, Qiw]; rfl
  · rintro j s hj rfl
    refine ⟨_, rfl, fun rec => ?_⟩
    obtain ⟨x, y, h1, h2, h3⟩ := Qki a b hj
    have hm : ((Lo a b).take j ++ (Xz a).drop j).length = 16 := (Qbg hl (by rw [Kj]; omega)).trans (Kj a)
    have hg := Qb9 hm ((Qbf hl (by rw [Kj]; omega)).trans h1)
    have hb : Xt (Xz b) (j : Int) = some y := by unfold Xt; rw [if_pos (by omega), Int.toNat_natCast, h2]
    unfold Qa7
    simp only
    rw [if_pos (by omega), hg, bind_some, hb, bind_some, bind_some, Qgu hm hj, bind_some, Qbh hl (by rw [Kj]; omega) h3, Xu (by omega) (by omega)]; rfl
  · rintro s rfl rec
    unfold Qa7
    simp only
    rw [if_neg (by omega), List.take_of_length_le (by rw [Qd6]; omega), List.drop_eq_nil_of_le (by rw [Kj]; omega), List.append_nil]; rfl
def Rj (b : By) (i : Nat) : W2 := Yh (Tc 16 (b.drop (16 * i)))
def Cn (k : W2) (b : By) (n : Nat) : W2 := (List.range n).foldl (fun s i => Wn k (xr s (Rj b i))) (Jk k (Xf 2#8) (wd (b.length : Int)))
def Ac (k : W2) (b : By) : W2 := Cn k b ((b.length + 15) / 16)
theorem Qsl (k : W2) (b : By) (n : Nat) : Cn k b (n + 1) = Wn k (xr (Cn k b n) (Rj b n)) := by unfold Cn; rw [List.range_succ, List.foldl_append, List.foldl_cons, List.foldl_nil]
theorem Qsm (k : W2) (b : By) : Cn k b 0 = Jk k (Xf 2#8) (wd (b.length : Int)) := by unfold Cn; rw [List.range_zero, List.foldl_nil]
theorem Qsi (k : W2) (b : By) (h : b.length ≤ 16384) : Qa0 k b = some (Ac k b, 0) := by
  unfold Qa0
  rw [if_neg (by omega)]
  have key : Qdl (Jk k (Xf 2#8) (wd (b.length : Int))) b k = some (Ac k b) := by
    unfold Qdl
    refine Dz _ (fun j s => s = (b.drop (16 * j), Cn k b j)) ((b.length + 15) / 16) _ (by omega) (by rw [Qsm, Nat.mul_zero, List.drop_zero]) ?_ ?_
    · rintro j s hj rfl
      refine ⟨_, rfl, fun rec => ?_⟩
      unfold Qa3
      simp only
      have hlen : (b.drop (16 * j)).length = b.length - 16 * j := List.length_drop
      rw [if_pos (by omega)]
      have hs : Nn (b.drop (16 * j)) (Bm (Xz k0) (b.drop (16 * j))) ((b.drop (16 * j)).length : Int) = some (b.drop (16 * (j + 1))) := by
        have hc : Bm (Xz k0) (b.drop (16 * j)) = ((min (b.length - 16 * j) 16 : Nat) : Int) := by unfold Bm; rw [hlen, Kj]
        unfold Nn
        rw [hc, hlen, if_pos (by omega), Int.toNat_natCast, Int.toNat_natCast, List.take_of_length_le (by omega), List.drop_drop]
        congr 1
        by_cases hx : 16 * (j + 1) ≤ b.length
        · congr 1; omega
        · rw [List.drop_eq_nil_of_le (by omega), List.drop_eq_nil_of_le (by omega)]
      rw [hs, bind_some]
      unfold Qho
      rw [Xie, bind_some, bind_some, Qsl]
      have hp : Gs (Xz k0) (b.drop (16 * j)) = Tc 16 (b.drop (16 * j)) := by
        unfold Gs Tc
        rw [Kj, show Xz k0 = List.replicate 16 0#8 by decide +kernel, List.drop_replicate]
      rw [hp]; rfl
    · rintro s rfl rec
      unfold Qa3
      simp only
      rw [List.drop_eq_nil_of_le (by omega), if_neg (by simp)]; rfl
  rw [key, bind_some]
theorem Qw8 (x y : BitVec 64) : Qdm ⟨x, y⟩ = some (x, y) := by
  unfold Qdm
  have hz : (List.replicate 8 0#8).length = (w8 x).length := rfl
  have hz2 : (List.replicate 8 0#8).length = (w8 y).length := rfl
  refine Dz _ (fun j s => s = ((j : Int), Yh (((w8 x).take j ++ (List.replicate 8 0#8).drop j) ++ ((w8 y).take j ++ (List.replicate 8 0#8).drop j)))) 8 _ (by omega) ?_ ?_ ?_
  · show (0, k0) = _
    have : k0 = Yh (((w8 x).take 0 ++ (List.replicate 8 0#8).drop 0) ++ ((w8 y).take 0 ++ (List.replicate 8 0#8).drop 0)) := by
      rw [List.take_zero, List.take_zero]; decide +kernel
    rw [← this]; rfl
  · rintro j s hj rfl
    refine ⟨_, rfl, fun rec => ?_⟩
    have ha := Qbg hz (j := j) (by simp; omega)
    have hb := Qbg hz2 (j := j) (by simp; omega)
    rw [List.length_replicate] at ha hb
    have hm : (((w8 x).take j ++ (List.replicate 8 0#8).drop j) ++ ((w8 y).take j ++ (List.replicate 8 0#8).drop j)).length = 16 := by rw [List.length_append]; omega
    unfold Qa4
    simp only
    have e1 : Qi (56 - Qi (8 * (j : Int))) = ((56 - 8 * j : Nat) : Int) := by rw [Xu (n := 8 * (j : Int)) (by omega) (by omega), Xu (by omega) (by omega)]; omega
    have e2 : Qi (8 + (j : Int)) = ((8 + j : Nat) : Int) := by rw [Xu (by omega) (by omega)]; omega
    have e3 : ∀ n : Nat, Jq ((n : Nat) : Int) = some n := fun n => by unfold Jq; rw [if_pos (by omega)]; rfl
    have hx : (w8 x)[j]? = some ((x >>> (56 - 8 * j)).setWidth 8) := by
      rcases (show j = 0 ∨ j = 1 ∨ j = 2 ∨ j = 3 ∨ j = 4 ∨ j = 5 ∨ j = 6 ∨ j = 7 by omega) with rfl | rfl | rfl | rfl | rfl | rfl | rfl | rfl <;> rfl
    have hy : (w8 y)[j]? = some ((y >>> (56 - 8 * j)).setWidth 8) := by
      rcases (show j = 0 ∨ j = 1 ∨ j = 2 ∨ j = 3 ∨ j = 4 ∨ j = 5 ∨ j = 6 ∨ j = 7 by omega) with rfl | rfl | rfl | rfl | rfl | rfl | rfl | rfl <;> rfl
    have hj8 : j < (List.replicate 8 0#8).length := by simp; omega
    have g1 := Qb9 hm (i := j) (by rw [List.getElem?_append_left (by omega), Qbf hz hj8, List.getElem?_replicate, if_pos hj])
    have s1 := Qgu hm (i := j) (by omega) ((x >>> (56 - 8 * j)).setWidth 8)
    rw [List.set_append_left _ _ (by omega), Qbh hz hj8 hx] at s1
    have ha1 := Qbg hz (j := j + 1) (by simp; omega)
    rw [List.length_replicate] at ha1
    have hm1 : (((w8 x).take (j + 1) ++ (List.replicate 8 0#8).drop (j + 1)) ++ ((w8 y).take j ++ (List.replicate 8 0#8).drop j)).length = 16 := by rw [List.length_append]; omega
    have g2 := Qb9 hm1 (i := 8 + j) (by rw [List.getElem?_append_right (by omega), ha1, Nat.add_sub_cancel_left, Qbf hz2 hj8, List.getElem?_replicate, if_pos hj])
    have s2 := Qgu hm1 (i := 8 + j) (by omega) ((y >>> (56 - 8 * j)).setWidth 8)
    rw [List.set_append_right _ _ (by omega), ha1, Nat.add_sub_cancel_left, Qbh hz2 hj8 hy] at s2
    rw [if_pos (by omega), e1, e2, e3, bind_some, bind_some, g1, bind_some, s1, bind_some, g2, bind_some, s2, bind_some, Xu (by omega) (by omega)]; rfl
  · rintro s rfl rec
    unfold Qa4
    simp only
    rw [if_neg (by omega), List.take_of_length_le (by simp [Sv]), List.take_of_length_le (by simp [Sv]), List.drop_eq_nil_of_le (by simp), List.append_nil, List.append_nil]
    rw [show w8 x ++ w8 y = Xz (x, y) from rfl, Qiw]
def Pz (c : Nat) (n : BitVec 64) : W2 := (((1#8).setWidth 64 <<< 56) ||| wd (c : Int), n)
theorem Qwb (c : Nat) (n : BitVec 64) : Qdk 1#8 (wd (c : Int)) n = some (Pz c n) := by
  unfold Qdk
  rw [show Jq (un 56#64) = some 56 from by decide, bind_some, Qw8, bind_some]; rfl
def Rc (k : W2) (n : BitVec 64) (i : Nat) : BitVec 8 := (Xz (Wn k (Pz (i / 16) n))).getD (i % 16) 0#8
def Wi (k : W2) (n : BitVec 64) (b : By) : By := (List.range b.length).map fun i => b.getD i 0#8 ^^^ Rc k n i
theorem Qcy (k : W2) (n : BitVec 64) (b : By) : (Wi k n b).length = b.length := by simp [Wi]
theorem Xgw (k : W2) (n : BitVec 64) (b : By) (h : b.length ≤ 16384) : Qdj k n b = some (Wi k n b, 0) := by
  unfold Qdj
  rw [if_neg (by omega), show Co 1 (b.length : Int) 0#8 = some (List.replicate b.length 0#8) by unfold Co; rw [if_pos (by omega)]; simp, bind_some]
  have hz : (List.replicate b.length 0#8).length = (Wi k n b).length := by rw [Qcy]; simp
  refine Dz _ (fun j s => s.1 = (Wi k n b).take j ++ (List.replicate b.length 0#8).drop j ∧ s.2.1 = (j : Int) ∧ (j % 16 = 0 ∨ s.2.2 = Wn k (Pz (j / 16) n))) b.length _ (by omega) ⟨by simp, rfl, .inl rfl⟩ ?_ ?_
  · rintro j ⟨o, i, m⟩ hj ⟨h1, h2, h3⟩
    simp only at h1 h2 h3
    subst h1 h2
    have hj2 : j < (List.replicate b.length 0#8).length := by simpa using hj
    have hS : (Wi k n b)[j]? = some (b[j] ^^^ Rc k n j) := by
      unfold Wi
      rw [List.getElem?_map, List.getElem?_range hj]; simp [List.getD, hj]
    have hr : Kv (j : Int) 16 = some ((j % 16 : Nat) : Int) := by unfold Kv; rw [if_neg (by decide), Int.tmod_eq_emod_of_nonneg (by omega)]; rfl
    have hq : Yy (j : Int) 16 = some ((j / 16 : Nat) : Int) := by unfold Yy; rw [if_neg (by decide), Int.tdiv_eq_ediv_of_nonneg (by omega), Xu (by omega) (by omega)]; rfl
    have hJ : ∀ rec, Qa1 ((Wi k n b).take j ++ (List.replicate b.length 0#8).drop j) (j : Int) rec b[j] (Wn k (Pz (j / 16) n)) = rec ((Wi k n b).take (j + 1) ++ (List.replicate b.length 0#8).drop (j + 1), ((j + 1 : Nat) : Int), Wn k (Pz (j / 16) n)) := fun rec => by
      unfold Qa1
      have h16 : j % 16 < (Xz (Wn k (Pz (j / 16) n))).length := by rw [Kj]; omega
      have hm : b[j] ^^^ Rc k n j = b[j] ^^^ (Xz (Wn k (Pz (j / 16) n)))[j % 16] := by unfold Rc; simp [List.getD, h16]
      have hg : Xt ((Wi k n b).take j ++ (List.replicate b.length 0#8).drop j) (j : Int) = some 0#8 := by
        unfold Xt; rw [if_pos (by omega), Int.toNat_natCast, Qbf hz hj2, List.getElem?_replicate, if_pos hj]
      rw [hr, bind_some, Kd h16, bind_some, hg, bind_some, Int.toNat_natCast, ← hm, Qbh hz hj2 hS, Xu (by omega) (by omega)]; rfl
    refine ⟨(_, ((j + 1 : Nat) : Int), Wn k (Pz (j / 16) n)), ⟨rfl, rfl, ?_⟩, fun rec => ?_⟩
    · by_cases h15 : (j + 1) % 16 = 0
      · exact .inl h15
      · refine .inr ?_
        rw [show (j + 1) / 16 = j / 16 by omega]
    · unfold Qa2
      simp only
      rw [if_pos (by omega), Kd hj, bind_some, hr, bind_some]
      by_cases h0 : j % 16 = 0
      · rw [if_pos (by omega), hq, bind_some, Qwb, bind_some, hJ]
      · rw [if_neg (by omega), h3.resolve_left h0, hJ]
  · rintro ⟨o, i, m⟩ ⟨h1, h2, h3⟩ rec
    simp only at h1 h2
    subst h1 h2
    unfold Qa2
    simp only
    rw [if_neg (by omega), List.take_of_length_le (by rw [Qcy]; omega), List.drop_eq_nil_of_le (by simp), List.append_nil]
end Go.Sx.Ep

end
section
set_option linter.unusedVariables false
set_option linter.unusedSimpArgs false
set_option maxRecDepth 100000
namespace Go.Sx.Ep
open Go Go.Sx
theorem Qum (a b : W2) : Qc0 a b = some (xr a b) := by
  unfold Qc0
  have hl : (Xz a).length = (Lo a b).length := by rw [Qd6, Kj]
  refine Dz _ (fun j s => s = ((j : Int), Yh ((Lo a b).take j ++ (Xz a).drop j))) 16 _ (by omega) ?_ ?_ ?_
  · rw [List.take_zero, List.nil_append, List.drop_zero, Qiw]; rfl
  · rintro j s hj rfl
    refine ⟨_, rfl, fun rec => ?_⟩
    obtain ⟨x, y, h1, h2, h3⟩ := Qki a b hj
    have hm : ((Lo a b).take j ++ (Xz a).drop j).length = 16 := (Qbg hl (by rw [Kj]; omega)).trans (Kj a)
    have hg := Qb9 hm ((Qbf hl (by rw [Kj]; omega)).trans h1)
    have hb : Xt (Xz b) (j : Int) = some y := by unfold Xt; rw [if_pos (by omega), Int.toNat_natCast, h2]
    unfold Qc1
    simp only
    rw [if_pos (by omega), hg, bind_some, hb, bind_some, bind_some, Qgu hm hj, bind_some, Qbh hl (by rw [Kj]; omega) h3, Xu (by omega) (by omega)]; rfl
  · rintro s rfl rec
    unfold Qc1
    simp only
    rw [if_neg (by omega), List.take_of_length_le (by rw [Qd6]; omega), List.drop_eq_nil_of_le (by rw [Kj]; omega), List.append_nil]; rfl
theorem Xih : k0 = Yh (List.replicate 16 0#8) := by decide +kernel
theorem Qua (l : By) : Rm l = some (Yh (Tc 16 l)) := by
  unfold Rm
  have hz : (List.replicate 16 0#8).length = (Tc 16 l).length := by rw [Qn7]; rfl
  refine Dz _ (fun j s => s = ((j : Int), Yh ((Tc 16 l).take j ++ (List.replicate 16 0#8).drop j))) (min 16 l.length) _ (by omega) ?_ ?_ ?_
  · rw [List.take_zero, List.nil_append, List.drop_zero, ← Xih]; rfl
  · rintro j s hj rfl
    refine ⟨_, rfl, fun rec => ?_⟩
    have hm : ((Tc 16 l).take j ++ (List.replicate 16 0#8).drop j).length = 16 := (Qbg hz (by simp; omega)).trans (by simp)
    have hg := Qb9 hm (i := j) ((Qbf hz (by simp; omega)).trans (by rw [List.getElem?_replicate, if_pos (by omega)]))
    have hp : (Tc 16 l)[j]? = some l[j] := by
      unfold Tc
      rw [List.getElem?_append_left (by simp; omega), List.getElem?_take_of_lt (by omega), List.getElem?_eq_getElem]
    unfold Nj
    simp only
    rw [if_pos (by omega), decide_eq_true (by omega)]
    unfold Lg
    rw [cond_true, Kd (show j < l.length by omega), bind_some, hg, bind_some, Qgu hm (by omega), bind_some, Qbh hz (by simp; omega) hp, Xu (by omega) (by omega)]; rfl
  · rintro s rfl rec
    unfold Nj
    simp only
    by_cases h : l.length < 16
    · rw [Nat.min_eq_right (by omega), if_pos (by omega), decide_eq_false (by omega)]
      unfold Lg
      rw [cond_false]
      congr 2
      unfold Tc
      rw [List.take_of_length_le (by omega : l.length ≤ 16), List.take_left' rfl, List.drop_replicate]
    · rw [Nat.min_eq_left (by omega), if_neg (by omega)]
      unfold Lg
      rw [cond_false, List.take_of_length_le (by rw [Qn7]; omega), List.drop_eq_nil_of_le (by simp), List.append_nil]
theorem Qtp (x : BitVec 64) (k : Nat) (hk : k ≤ 8) : Ni x (k : Int) = some (be x k) := by
  unfold Ni
  refine Dz _ (fun j s => s = (x >>> (8 * j), be x j, (j : Int))) k _ (by omega) ?_ ?_ ?_
  · rw [Nat.mul_zero, BitVec.ushiftRight_zero]; rfl
  · rintro j s hj rfl
    refine ⟨_, rfl, fun rec => ?_⟩
    unfold Tj
    simp only
    rw [if_pos (by omega), Qo1, bind_some, Vd (by simp [Vs]; omega), bind_some, Qnh, bind_some, Qnz, Xu (by omega) (by omega), ← BitVec.shiftRight_add]; rfl
  · rintro s rfl rec
    unfold Tj
    simp only
    rw [if_neg (by omega)]
theorem Qw9 : ∀ c : Fin 1025, w8 (((1#8).setWidth 64 <<< 56) ||| wd (c.1 : Int)) = 1#8 :: be (wd (c.1 : Int)) 7 := by decide +kernel
theorem Xe9 (c : Nat) (hc : c ≤ 1024) (n : BitVec 64) : Qfp 1#8 (wd (c : Int)) n = some (Pz c n) := by
  unfold Qfp
  have h7 := Qtp (wd (c : Int)) 7 (by omega)
  have h8 := Qtp n 8 (by omega)
  rw [show ((7 : Nat) : Int) = 7 from rfl] at h7
  rw [show ((8 : Nat) : Int) = 8 from rfl] at h8
  rw [h7, bind_some, Vd (by simp [Vs]), bind_some, h8, bind_some, Vd (by simp [Vs]), bind_some, Qua, bind_some]
  congr 1
  have hL : [1#8] ++ be (wd (c : Int)) 7 ++ be n 8 = Xz (Pz c n) := by
    have h1 := Qw9 ⟨c, by omega⟩
    simp only at h1
    show (1#8 :: be (wd (c : Int)) 7) ++ be n 8 = w8 _ ++ w8 n
    rw [← h1]; rfl
  have hp : Tc 16 (Xz (Pz c n)) = Xz (Pz c n) := by
    unfold Tc; rw [Kj, List.take_of_length_le (by rw [Kj]; omega)]; simp
  rw [hL, hp, Qiw]
theorem Qj2 (b : By) (h : b.length ≤ 1000000) : Qc4 b = some (((b.length + 15) / 16 : Nat) : Int) := by
  unfold Qc4
  rw [Xu (by omega) (by omega)]
  unfold Yy
  rw [if_neg (by decide), bind_some, Int.tdiv_eq_ediv_of_nonneg (by omega), Xu (by omega) (by omega)]
  congr 1
theorem Qtd (b : By) (h : b.length ≤ 1000000) {j : Nat} (hj : 16 * j ≤ b.length) : Qc3 b (j : Int) = some (Rj b j) := by
  unfold Qc3
  have : Nn b (Qi (16 * (j : Int))) (b.length : Int) = some (b.drop (16 * j)) := by
    rw [Xu (by omega) (by omega)]
    unfold Nn
    rw [if_pos (by omega), Int.toNat_natCast, List.take_of_length_le (by omega), show (16 * (j : Int)).toNat = 16 * j by omega]
  rw [this, bind_some, Qua, bind_some]; rfl
theorem Qv2 (k : W2) (b : By) (h : b.length ≤ 1000000) : Qby k b = some (Ac k b) := by
  unfold Qby
  refine Dz _ (fun j s => s = ((j : Int), Cn k b j)) ((b.length + 15) / 16) _ (by omega) (by rw [Qsm]; rfl) ?_ ?_
  · rintro j s hj rfl
    refine ⟨_, rfl, fun rec => ?_⟩
    unfold Qbz
    simp only
    rw [Qj2 b h, bind_some, if_pos (by omega), Qtd b h (by omega), bind_some, Qum, bind_some, ← Qsl, Xu (by omega) (by omega)]; rfl
  · rintro s rfl rec
    unfold Qbz
    simp only
    rw [Qj2 b h, bind_some, if_neg (by omega)]; rfl
theorem Xgv (k : W2) (n : BitVec 64) (b : By) {i : Nat} (hi : i < b.length) : (Wi k n b)[i]? = some (b[i] ^^^ Rc k n i) := by
  unfold Wi
  rw [List.getElem?_map, List.getElem?_range hi]; simp [List.getD, hi]
theorem Xe2 (b : By) {j i : Nat} (hi : i < 16) (h : 16 * j + i < b.length) : (Xz (Rj b j))[i]? = some b[16 * j + i] := by
  unfold Rj
  rw [Qmq (Qn7 16 _)]
  unfold Tc
  rw [List.getElem?_append_left (by simp; omega), List.getElem?_take_of_lt hi, List.getElem?_drop, List.getElem?_eq_getElem]
theorem Xbl (k : W2) (n : BitVec 64) (b : By) (h : b.length ≤ 16384) {j : Nat} (hj : 16 * j < b.length) (rec1 : List (BitVec 8) × Int → Option (List (BitVec 8) × Int)) :
    Qfs b ((Wi k n b).take (16 * j)) (j : Int) rec1 (xr (Rj b j) (Wn k (Pz j n))) = rec1 ((Wi k n b).take (16 * (j + 1)), ((j + 1 : Nat) : Int)) := by
  unfold Qfs
  refine Dz _ (fun i s => s = ((Wi k n b).take (16 * j + i), (i : Int))) (min 16 (b.length - 16 * j)) _ (by omega) rfl ?_ ?_
  · rintro i s hi rfl
    refine ⟨_, rfl, fun rec => ?_⟩
    unfold Qbx
    simp only
    rw [if_pos (by omega), decide_eq_true (by rw [Xu (n := 16 * (j : Int)) (by omega) (by omega), Xu (by omega) (by omega)]; omega)]
    unfold Ar
    obtain ⟨x, y, h1, h2, h3⟩ := Qki (Rj b j) (Wn k (Pz j n)) (j := i) (by omega)
    rw [Xe2 b (by omega) (by omega)] at h1
    have hx := Option.some.inj h1
    have hm : Rc k n (16 * j + i) = y := by
      unfold Rc
      rw [show (16 * j + i) / 16 = j by omega, show (16 * j + i) % 16 = i by omega, List.getD_eq_getElem?_getD, h2]; rfl
    have hg : Xt (Xz (xr (Rj b j) (Wn k (Pz j n)))) (i : Int) = some (b[16 * j + i] ^^^ Rc k n (16 * j + i)) := by
      rw [hx, hm]; exact Qb9 (Qd6 _ _) h3
    rw [cond_true, hg, bind_some, Vd (by simp; omega), bind_some, Xu (by omega) (by omega)]
    have ht : (Wi k n b).take (16 * j + i) ++ [b[16 * j + i] ^^^ Rc k n (16 * j + i)] = (Wi k n b).take (16 * j + (i + 1)) := by
      rw [← Nat.add_assoc, List.take_add_one, Xgv k n b (by omega)]; rfl
    rw [ht]; rfl
  · rintro s rfl rec
    unfold Qbx
    simp only
    have hf : ∀ b' : Bool, b' = false → Ar (j : Int) rec1 (xr (Rj b j) (Wn k (Pz j n))) ((Wi k n b).take (16 * j + min 16 (b.length - 16 * j))) ((min 16 (b.length - 16 * j) : Nat) : Int) rec b' = rec1 ((Wi k n b).take (16 * (j + 1)), ((j + 1 : Nat) : Int)) := by
      rintro b' rfl
      unfold Ar
      rw [cond_false, Xu (by omega) (by omega)]
      have ht : (Wi k n b).take (16 * j + min 16 (b.length - 16 * j)) = (Wi k n b).take (16 * (j + 1)) := by
        by_cases hc : 16 ≤ b.length - 16 * j
        · rw [Nat.min_eq_left hc]; rfl
        · rw [List.take_of_length_le (by rw [Qcy]; omega), List.take_of_length_le (by rw [Qcy]; omega)]
      rw [ht]; rfl
    split
    · exact hf _ (decide_eq_false (by rw [Xu (n := 16 * (j : Int)) (by omega) (by omega), Xu (by omega) (by omega)]; omega))
    · exact hf _ rfl
theorem Xfz (k : W2) (n : BitVec 64) (b : By) (h : b.length ≤ 16384) : Qgp k n b = some (Wi k n b) := by
  unfold Qgp Qj5
  rw [if_neg (by omega)]
  have key : Qr (Au k n b) Xb ([], 0) = some (Wi k n b, 0) := by
    refine Dz _ (fun j s => s = ((Wi k n b).take (16 * j), (j : Int))) ((b.length + 15) / 16) _ (by omega) (by rw [Nat.mul_zero, List.take_zero]; rfl) ?_ ?_
    · rintro j s hj rfl
      refine ⟨_, rfl, fun rec => ?_⟩
      unfold Au
      simp only
      rw [Qj2 b (by omega), bind_some, if_pos (by omega), Qtd b (by omega) (by omega), bind_some, Xe9 j (by omega), bind_some, Qum, bind_some]
      exact Xbl k n b h (by omega) rec
    · rintro s rfl rec
      unfold Au
      simp only
      rw [Qj2 b (by omega), bind_some, if_neg (by omega), List.take_of_length_le (by rw [Qcy]; omega)]
  rw [key, bind_some]
end Go.Sx.Ep

end
section
set_option linter.unusedVariables false
set_option linter.unusedSimpArgs false
set_option maxRecDepth 100000
namespace Go.Sx
open Go
theorem Xcg {d u : Nat} (hu : u < 2 ^ d) : Nat.log2 (2 ^ d + u) = d := by
  rw [Nat.log2_eq_iff (by have := Nat.two_pow_pos d; omega), Nat.pow_succ]; omega
end Go.Sx

end
section
set_option linter.unusedVariables false
set_option linter.unusedSimpArgs false
set_option maxRecDepth 100000
namespace Go.Sx
open Go
section
variable {d : Nat} {R : List Nat}
def Rcv (d : Nat) (R : List Nat) : Prop := d ≤ 6 ∧ ∀ u ∈ R, u < 2 ^ d
theorem Rcv.leaf (h : Rcv d R) {u : Nat} (hu : u ∈ R) : 1 ≤ 2 ^ d + u ∧ 2 ^ d + u < 128 ∧ Nat.log2 (2 ^ d + u) = d := by
  have := Cs h.1
  have := h.2 u hu
  have := Nat.two_pow_pos d
  exact ⟨by omega, by omega, Xcg (h.2 u hu)⟩
end
end Go.Sx

end
section
set_option linter.unusedVariables false
set_option linter.unusedSimpArgs false
namespace Go.Sx
open Go
def Fa (l : Xn) : Prop := Jo l.Node ∧ Jo l.Minus
theorem Qw4 {m q : Nat} (hm : 1 ≤ m) (h : Yv m q = true) : ∃ k, q = m / 2 ^ k ∧ 2 ^ k ≤ m := by
  unfold Yv at h
  obtain ⟨h1, h2⟩ := of_decide_eq_true h
  exact ⟨_, h2.symm, Nat.le_trans (Nat.pow_le_pow_right (by omega) (by omega)) (Nat.log2_self_le (by omega))⟩
def Qoz (l : Xn) (x : Xo) : Prop := ∃ q m k : Nat, l.Minus = (q : Int) ∧ x.Minus = (m : Int) ∧ q = m / 2 ^ k ∧ 2 ^ k ≤ m ∧ m < 128 ∧ k ≤ 6
theorem Xcf (s : Qs) (x : Xo) (h : Lp s x) (l : Xn) (hl : Fa l) : ∃ b, Qdy (Wv s) l x = some b ∧ Qg1 s l.Node l.Minus x = some b ∧ (b = true → s.Kind = 1#8 ∨ x.Minus = 0 ∨ Qoz l x) := by
  unfold Qdy Qg1
  rw [show (Wv s).kind = s.Kind from rfl]
  have hno : false = true → s.Kind = 1#8 ∨ x.Minus = 0 ∨ Qoz l x := fun h => by cases h
  by_cases hk : s.Kind = 1#8
  · rw [if_pos hk, if_pos hk]
    unfold Qag Ij
    rw [cond_true, cond_true]
    by_cases hn : l.Node = x.Node
    · rw [if_neg (by simp [hn]), if_pos hn]; exact ⟨_, rfl, rfl, fun _ => .inl hk⟩
    · rw [if_pos hn, if_neg hn]; exact ⟨_, rfl, rfl, hno⟩
  · rw [if_neg hk, if_neg hk]
    by_cases hn : l.Node = x.Node
    · rw [if_neg (by simp [hn])]
      unfold Qag Ij
      by_cases hm : x.Minus = 0
      · rw [decide_eq_true hm, cond_true, cond_true, if_pos hn]; exact ⟨_, rfl, rfl, fun _ => .inr (.inl hm)⟩
      · rw [decide_eq_false hm, cond_false, cond_false, if_pos hn]
        rcases h.2 with h3 | h3 | ⟨m, n, k, hm1, hn1, hk1, hk2, hm2, hk3, hn2⟩
        · exact absurd h3 hk
        · exact absurd h3 hm
        · have hmp : 1 ≤ m := by have := Nat.two_pow_pos (k + 1); omega
          have hnm : n ≤ m := by rw [hk1]; exact Nat.div_le_self _ _
          obtain ⟨b1, b2⟩ := hl
          unfold Jo at b1 b2
          by_cases h1 : (1 : Int) ≤ l.Minus
          · obtain ⟨q, hq⟩ : ∃ q : Nat, l.Minus = (q : Int) := ⟨l.Minus.toNat, by omega⟩
            have e1 : Gu l.Minus l.Node = some (Yv q n) := by rw [hn, hq, hn1]; exact Qkp (by omega) hn2 (by omega) (by omega)
            have e2 : Ro l.Minus l.Node = some (Yv q n) := by rw [hn, hq, hn1]; exact Qni (by omega) hn2 (by omega)
            have e3 : Gu x.Minus l.Minus = some (Yv m q) := by rw [hq, hm1]; exact Qkp hmp (by omega) (by omega) (by omega)
            have e4 : Ro x.Minus l.Minus = some (Yv m q) := by rw [hq, hm1]; exact Qni hmp (by omega) (by omega)
            rw [if_pos h1, e1, e2, bind_some, bind_some]
            cases Yv q n with
            | false => exact ⟨_, rfl, rfl, hno⟩
            | true =>
              rw [cond_true, cond_true, e3, e4, bind_some]
              refine ⟨_, rfl, rfl, fun hb => ?_⟩
              obtain ⟨k', h5, h6⟩ := Qw4 hmp hb
              exact .inr (.inr ⟨q, m, k', hq, hm1, h5, h6, hm2, Qmu h6 hm2⟩)
          · rw [if_neg h1]
            have e1 : Gu l.Minus l.Node = some false := by
              unfold Gu Uv
              rw [if_pos (by omega)]; rfl
            rw [e1, bind_some]
            exact ⟨_, rfl, rfl, hno⟩
    · rw [if_pos hn]
      unfold Ij
      cases decide (x.Minus = 0) with
      | true => rw [cond_true, if_neg hn]; exact ⟨_, rfl, rfl, hno⟩
      | false => rw [cond_false, if_neg hn]; exact ⟨_, rfl, rfl, hno⟩
theorem Qeu (s : Qs) (c : Qq) (hc : c.Labels.length < 4611686018427387904) (hok : ∀ l ∈ c.Labels, Fa l) (x : Xo) (h : Lp s x) : ∀ (m j f f' : Nat), c.Labels.length - j = m → j ≤ c.Labels.length → m < f → m < f' →
    ∃ r, Qr (Ea (Wv s) c x) f (j : Int) = some r ∧ Qr (Ay s c x) f' (j : Int) = some r
  | m, j, 0, _, _, _, h, _ => by omega
  | m, j, _ + 1, 0, _, _, _, h => by omega
  | 0, j, f + 1, f' + 1, hm, hj, _, _ => by
    rw [Zt, Zt]; simp only [Ea, Ay]
    rw [if_neg (by omega), if_neg (by omega)]
    exact ⟨_, rfl, rfl⟩
  | m + 1, j, f + 1, f' + 1, hm, hj, hf, hf' => by
    rw [Zt, Zt]; simp only [Ea, Ay]
    have hjl : j < c.Labels.length := by omega
    obtain ⟨b, e1, e2, hb⟩ := Xcf s x h c.Labels[j] (hok _ (List.getElem_mem hjl))
    rw [if_pos (by omega), if_pos (by omega), Kd hjl, bind_some, bind_some, e1, e2, bind_some, bind_some]
    cases b with
    | false =>
      simp only [Bool.not_false, cond_true]
      rw [Xu (by omega) (by omega)]
      exact Qeu s c hc hok x h m (j + 1) f f' (by omega) (by omega) (by omega) (by omega)
    | true =>
      simp only [Bool.not_true, cond_false]
      rw [show (Wv s).kind = s.Kind from rfl]
      unfold Qdv Qfw
      by_cases hk : s.Kind = 1#8
      · rw [if_pos hk, if_pos hk]; exact ⟨_, rfl, rfl⟩
      · rw [if_neg hk, if_neg hk]
        by_cases hm0 : x.Minus = 0
        · rw [decide_eq_true hm0]; exact ⟨_, rfl, rfl⟩
        · rw [decide_eq_false hm0, cond_false, cond_false]
          rcases hb rfl with h3 | h3 | ⟨q, m', k, hq, hm1, hk1, hk2, hm2, hk3⟩
          · exact absurd h3 hk
          · exact absurd h3 hm0
          · have e3 : Ff c.Labels[j].Key c.Labels[j].Minus x.Minus = some ((Vv m' k).foldl Sn c.Labels[j].Key) := by rw [hq, hm1, hk1]; exact Qpy _ (by omega) hk2 (by omega)
            have e4 : Ig c.Labels[j].Key c.Labels[j].Minus x.Minus = some ((Vv m' k).foldl Sn c.Labels[j].Key) := by rw [hq, hm1, hk1]; exact Qld _ (by omega) hk2 (by omega)
            rw [e3, e4, bind_some, bind_some]
            exact ⟨_, rfl, rfl⟩
theorem Xb9 (s : Qs) (c : Qq) (hc : c.Labels.length < 4611686018427387904) (hok : ∀ l ∈ c.Labels, Fa l) (x : Xo) (h : Lp s x) : ∃ r, Qht (Wv s) c x = some r ∧ Qj9 s c x = some r :=
  Qeu s c hc hok x h _ 0 Xb Xb rfl (by omega) (Ki (by omega)) (Ki (by omega))
end Go.Sx

end
section
set_option linter.unusedVariables false
set_option linter.unusedSimpArgs false
namespace Go.Sx
open Go
section
variable {s : Qs} {d u n m : Nat}
end
theorem getD_some {l : List Int} {j : Nat} (h : j < l.length) : l.getD j 0 = l[j] := by simp [List.getD, h]
theorem Ul {σ : Type} (p : Nat → Bool) : ∀ (l : List Nat) (F : Nat → (σ → Option Bool) → σ → Option Bool) (s : σ), (∀ a ∈ l, ∀ nx s, F a nx s = bif p a then nx s else some false) → Vf F (fun _ => some true) l s = some (l.all p)
  | [], F, s, _ => rfl
  | a :: l, F, s, h => by
    rw [Cf, h a (by simp), List.all_cons]
    cases p a with
    | false => rfl
    | true => rw [cond_true, Bool.true_and]; exact Ul p l F s (fun b hb => h b (by simp [hb]))
end Go.Sx

end
section
set_option linter.unusedVariables false
set_option linter.unusedSimpArgs false
set_option maxRecDepth 100000
namespace Go.Sx
open Go
end Go.Sx

end
section
set_option linter.unusedVariables false
set_option linter.unusedSimpArgs false
set_option maxRecDepth 100000
namespace Go.Sx
open Go
section
variable {s : Qs} {d : Nat} {l : List Int}
end
end Go.Sx

end
section
set_option linter.unusedVariables false
set_option linter.unusedSimpArgs false
namespace Go.Sx
open Go
end Go.Sx

end
section
set_option linter.unusedVariables false
set_option linter.unusedSimpArgs false
namespace Go.Sx
open Go
end Go.Sx

end
section
set_option linter.unusedVariables false
set_option linter.unusedSimpArgs false
namespace Go.Sx
open Go
theorem Pj (n : Nat) (x : BitVec 64) (l : List (BitVec 8)) (k : Nat) (hk : k < 8) (hl : l.length = k) : Qr (Tj 8) (n + 1) (x, l, (k : Int)) = Qr (Tj 8) n (x >>> 8, x.setWidth 8 :: l, ((k + 1 : Nat) : Int)) := by
  rw [Zt]
  simp only [Tj]
  rw [if_pos (by omega), Qo1, bind_some, Vd (by simp; omega), bind_some, Qnh, bind_some, Qnz, Xu (by omega) (by omega)]
  rfl
theorem Qdf (x : BitVec 64) : Ni x 8 = some (w8 x) := by
  unfold Ni
  rw [show Xb = 18446744073709551607 + 9 from rfl, show (0 : Int) = ((0 : Nat) : Int) from rfl]
  rw [Pj _ _ _ 0 (by decide) rfl, Pj _ _ _ 1 (by decide) rfl, Pj _ _ _ 2 (by decide) rfl, Pj _ _ _ 3 (by decide) rfl, Pj _ _ _ 4 (by decide) rfl, Pj _ _ _ 5 (by decide) rfl, Pj _ _ _ 6 (by decide) rfl, Pj _ _ _ 7 (by decide) rfl, Zt]
  simp only [Tj]
  rw [if_neg (by omega)]
  simp only [← BitVec.shiftRight_add]
  rfl
def Kw (l : List (BitVec 8)) : BitVec 64 := l.foldl (fun n c => 256#64 * n + c.setWidth 64) 0#64
theorem Bb (l : List (BitVec 8)) (c : BitVec 8) : Kw (l ++ [c]) = 256#64 * Kw l + c.setWidth 64 := by simp [Kw]
theorem Ms (l : List (BitVec 8)) (hx : l.length ≤ 1000) : ∀ (m i fuel : Nat), l.length - i = m → i ≤ l.length → m < fuel → Qr (Gg l) fuel (Kw (l.take i), (i : Int)) = some (Kw l)
  | m, i, 0, _, _, hf => by omega
  | 0, i, fuel + 1, hm, hi, hf => by
    rw [Zt]; simp only [Gg]; rw [if_neg (by omega), List.take_of_length_le (by omega)]
  | m + 1, i, fuel + 1, hm, hi, hf => by
    rw [Zt]; simp only [Gg]
    rw [if_pos (by omega), Kd (by omega), bind_some, ← Bb, ← Gi _ _ (by omega), Xu (by omega) (by omega)]
    exact Ms l hx m (i + 1) fuel (by omega) (by omega) (by omega)
theorem Oi (l : List (BitVec 8)) (h : l.length ≤ 1000) : Cw l = some (Kw l) := Ms l h _ 0 Xb rfl (by omega) (Ki (by omega))
theorem Mm (a : BitVec 64) (c : BitVec 8) : (a <<< 8) ||| (c.setWidth 64) = 256#64 * a + c.setWidth 64 := by
  have e1 : 256#64 * a = a <<< 8 := by
    apply BitVec.eq_of_toNat_eq
    rw [BitVec.toNat_mul, BitVec.toNat_shiftLeft, Nat.shiftLeft_eq, Nat.mul_comm]; rfl
  rw [e1]
  symm
  apply BitVec.add_eq_or_of_and_eq_zero
  apply BitVec.eq_of_getLsbD_eq
  intro j hj
  rw [BitVec.getLsbD_and, BitVec.getLsbD_shiftLeft, BitVec.getLsbD_setWidth, BitVec.getLsbD_zero]
  by_cases h : j < 8
  · simp [h]
  · simp [BitVec.getLsbD_of_ge c j (by omega)]
theorem Qkx (x : BitVec 64) (k : Nat) : (Kg x k).setWidth 64 = wd (bt x k) := by
  rw [Qou]
  apply BitVec.eq_of_toNat_eq
  unfold Kg
  rw [BitVec.toNat_setWidth, BitVec.toNat_setWidth, BitVec.toNat_and]
  have : (255#64 : BitVec 64).toNat = 2 ^ 8 - 1 := rfl
  rw [this, Nat.and_two_pow_sub_one_eq_mod]
  omega
theorem Pv (x : BitVec 64) (k : Nat) (hk : k < 8) : 256#64 * (x >>> (64 - 8 * k)) + (Kg x k).setWidth 64 = x >>> (64 - 8 * (k + 1)) := by
  rw [← Mm, Qkx, Iz x k hk]
theorem Qh0 (x : BitVec 64) : Kw (w8 x) = x := by
  have h0 := Pv x 0 (by decide)
  have h1 := Pv x 1 (by decide)
  have h2 := Pv x 2 (by decide)
  have h3 := Pv x 3 (by decide)
  have h4 := Pv x 4 (by decide)
  have h5 := Pv x 5 (by decide)
  have h6 := Pv x 6 (by decide)
  have h7 := Pv x 7 (by decide)
  have hz : x >>> 64 = 0#64 := by apply BitVec.eq_of_toNat_eq; rw [BitVec.toNat_ushiftRight, Nat.shiftRight_eq_div_pow, Nat.div_eq_of_lt x.isLt]; rfl
  simp only [Nat.mul_zero, Nat.sub_zero, hz] at h0
  simp only [Kw, w8, List.foldl_cons, List.foldl_nil, h0, h1, h2, h3, h4, h5, h6, h7]
  simp
theorem Oo (p : W2) : Cz p = some p := by
  unfold Cz
  rw [show ((Xz p).take 8).drop 0 = w8 p.1 from rfl, show ((Xz p).take 16).drop 8 = w8 p.2 from rfl, Oi _ (by rw [Sv]; omega), bind_some, Oi _ (by rw [Sv]; omega), bind_some, Qh0, Qh0]
theorem Iw (x : BitVec 64) (n : Nat) (h1 : 1 ≤ n) (h2 : n ≤ 63) : Rn x (n : Int) = some (Yj x (64 - n)) := by
  unfold Rn Yj
  have e1 : Jq (n : Int) = some n := by unfold Jq; rw [if_pos (by omega)]; rfl
  have e2 : Jq (Qi (64 - (n : Int))) = some (64 - n) := by rw [Xu (by omega) (by omega)]; unfold Jq; rw [if_pos (by omega)]; congr 1; omega
  rw [e1, bind_some, e2, bind_some, BitVec.or_comm, show 64 - (64 - n) = n from by omega]
theorem Qgt (x : BitVec 64) (n : Nat) (h1 : 1 ≤ n) (h2 : n ≤ 63) : Cx x (n : Int) = some (Yj x n) := by
  unfold Cx
  rw [Xu (by omega) (by omega), show (64 : Int) - (n : Int) = ((64 - n : Nat) : Int) from by omega, Iw x (64 - n) (by omega) (by omega), bind_some, show 64 - (64 - n) = n from by omega]
def Wo (k : W2) (n : Nat) : List (BitVec 64) := (List.range n).map fun i => (ks k i).2
theorem Qo4 (k : W2) (n : Nat) : Wo k (n + 1) = Wo k n ++ [(ks k n).2] := by simp [Wo, List.range_succ]
theorem Qgs (k : W2) (n : Nat) : (Wo k n).length = n := by simp [Wo]
theorem Qgq (k : W2) : ∀ (m i f : Nat), i + m = 31 → m < f → Qr Sj f ((ks k i).1, (ks k i).2, Wo k (i + 1), (i : Int)) = some (Wo k 32)
  | m, i, 0, _, h => by omega
  | 0, i, f + 1, hi, _ => by
    obtain rfl : i = 31 := by omega
    rw [Zt]; simp only [Sj]; rw [if_neg (by omega)]
  | m + 1, i, f + 1, hi, hf => by
    rw [Zt]; simp only [Sj]
    have r1 := Iw (ks k i).1 8 (by omega) (by omega)
    have r2 := Qgt (ks k i).2 3 (by omega) (by omega)
    rw [show ((8 : Nat) : Int) = 8 from rfl] at r1
    rw [show ((3 : Nat) : Int) = 3 from rfl] at r2
    rw [if_pos (by omega), r1, bind_some, r2, bind_some, Vd (by rw [Qgs]; simp; omega), bind_some, Xu (by omega) (by omega)]
    have e1 : (((ks k i).2 + Yj (ks k i).1 (64 - 8)) ^^^ wd (i : Int)) = (ks k (i + 1)).1 := by simp [ks, Lk, BitVec.add_comm]
    have e2 : Yj (ks k i).2 3 ^^^ (ks k (i + 1)).1 = (ks k (i + 1)).2 := by simp [ks, Lk]
    rw [e1, e2, ← Qo4]
    exact Qgq k m (i + 1) f (by omega) (by omega)
theorem Qo3 (k : W2) : Aw k = some (Wo k 32) := by
  unfold Aw
  rw [Oo, bind_some]
  exact Qgq k 31 0 Xb (by omega) (Ki (by omega))
theorem Qgr (l : List (BitVec 8)) (hl : l.length = 16) : ∀ (m i fuel : Nat) (p : W2), 16 - i = m → i ≤ 16 → m < fuel → (Xz p).take i = l.take i → Qr (Nj l) fuel ((i : Int), p) = some (Yh l)
  | m, i, 0, p, _, _, hf, _ => by omega
  | 0, i, fuel + 1, p, hm, hi, hf, hp => by
    rw [Zt]; simp only [Nj, Lg]; rw [if_neg (by omega)]
    obtain rfl : i = 16 := by omega
    simp only [cond_false]
    congr 1
    apply Qmp
    rw [Aa (by omega), ← hp, List.take_of_length_le (by simp [Xz])]
  | m + 1, i, fuel + 1, p, hm, hi, hf, hp => by
    rw [Zt]; simp only [Nj, Lg]
    have hk : i < (Xz p).length := by rw [Kj]; omega
    rw [if_pos (by omega), decide_eq_true (by omega)]
    simp only [cond_true]
    rw [Kd (by omega), bind_some, Kd hk, bind_some]
    have hks : Ti p (i : Int) (l[i]'(by omega)) = some (Yh ((Xz p).set i (l[i]'(by omega)))) := by unfold Ti; rw [if_pos (by omega)]; rfl
    rw [hks, bind_some, Xu (by omega) (by omega)]
    refine Qgr l hl m (i + 1) fuel _ (by omega) (by omega) (by omega) ?_
    have hq := (Qms hks).2
    rw [Int.toNat_natCast] at hq
    rw [hq, Gi _ i (by rw [List.length_set]; exact hk), Gi l i (by omega), List.take_set_of_le (Nat.le_refl i), hp]
    simp
theorem Qkr (x y : BitVec 64) : Av x y = some (x, y) := by
  unfold Av Rm
  rw [Qdf, bind_some, Qdf, bind_some, Vd (by simp [w8]), bind_some]
  have := Qgr (w8 x ++ w8 y) (by simp [w8]) _ 0 Xb k0 rfl (by omega) (Ki (by omega)) (by simp)
  rw [show ((0 : Nat) : Int) = 0 from rfl] at this
  rw [this, bind_some, show w8 x ++ w8 y = Xz (x, y) ++ [] from rfl, Qn2]
theorem Qlb (k b : W2) (j : Nat) (h : j < 32) : Yf k b j = Iv (Yf k b (j + 1)) (ks k j).2 := by
  unfold Yf
  rw [show 32 - j = 32 - (j + 1) + 1 from by omega, List.range_succ, List.foldl_append, List.foldl_cons, List.foldl_nil, show 31 - (32 - (j + 1)) = j from by omega]
theorem Qe0 (k b : W2) : ∀ (i f : Nat), i ≤ 32 → i < f → Qr (Si (Wo k 32)) f ((Yf k b i).1, (Yf k b i).2, (i : Int) - 1) = some (Dc k b)
  | i, 0, _, h => by omega
  | 0, f + 1, _, _ => by
    rw [Zt]; simp only [Si]; rw [if_neg (by omega), Qkr, bind_some]; rfl
  | i + 1, f + 1, hi, hf => by
    rw [Zt]; simp only [Si]
    have r1 := Iw ((Yf k b (i + 1)).2 ^^^ (Yf k b (i + 1)).1) 3 (by omega) (by omega)
    have r2 := Qgt (((Yf k b (i + 1)).1 ^^^ (ks k i).2) - Yj ((Yf k b (i + 1)).2 ^^^ (Yf k b (i + 1)).1) (64 - 3)) 8 (by omega) (by omega)
    rw [show ((8 : Nat) : Int) = 8 from rfl] at r2
    rw [show ((3 : Nat) : Int) = 3 from rfl] at r1
    have hg : Xt (Wo k 32) (i : Int) = some (ks k i).2 := by
      rw [Kd (by rw [Qgs]; omega)]; simp [Wo]
    rw [if_pos (by omega), r1, bind_some, show ((i + 1 : Nat) : Int) - 1 = (i : Int) from by omega, hg, bind_some, r2, bind_some, Xu (by omega) (by omega)]
    have ih := Qe0 k b i f (by omega) (by omega)
    rw [Qlb k b i (by omega)] at ih
    unfold Iv at ih
    rw [BitVec.xor_comm (Yf k b (i + 1)).2]
    exact ih
theorem rdecr_eq (k b : W2) : Cu k b = some (Dc k b) := by
  unfold Cu
  rw [Oo, bind_some, Qo3, bind_some]
  exact Qe0 k b 32 Xb (by omega) (Ki (by omega))
end Go.Sx

end
section
set_option linter.unusedVariables false
set_option linter.unusedSimpArgs false
namespace Go.Sx
open Go
theorem Qvb (s : Qs) (hv : Yp s = true) (h : Zi) (hl : h.Items.length ≤ 64) : ∀ (m j f f' : Nat), h.Items.length - j = m → j ≤ h.Items.length → m < f → m < f' → (∀ x ∈ h.Items.take j, Lp s x.Subset) →
    (∃ i : Nat, Qr (Mp h.Items (Wv s)) f (j : Int) = some (i : Int) ∧ Qr (Mf s h) f' (j : Int) = some false) ∨
    (Qr (Mp h.Items (Wv s)) f (j : Int) = some (-1) ∧ Qr (Mf s h) f' (j : Int) = some true ∧ ∀ x ∈ h.Items, Lp s x.Subset)
  | m, j, 0, _, _, _, h, _, _ => by omega
  | m, j, _ + 1, 0, _, _, _, h, _ => by omega
  | 0, j, f + 1, f' + 1, hm, hj, _, _, hok => by
    rw [Zt, Zt]; simp only [Mp, Mf]
    rw [if_neg (by omega), if_neg (by omega)]
    refine .inr ⟨rfl, rfl, ?_⟩
    rw [List.take_of_length_le (by omega)] at hok; exact hok
  | m + 1, j, f + 1, f' + 1, hm, hj, hf, hf', hok => by
    rw [Zt, Zt]; simp only [Mp, Mf, Qhp]
    have hjl : j < h.Items.length := by omega
    obtain ⟨b, e1, e2, hb⟩ := Xgz s hv h.Items[j].Subset
    rw [if_pos (by omega), if_pos (by omega), Kd hjl, bind_some, bind_some, e1, e2, bind_some, bind_some, bind_some]
    cases b with
    | false => exact .inl ⟨j, rfl, rfl⟩
    | true =>
      simp only [Bool.not_true, cond_false]
      rw [Xu (by omega) (by omega)]
      refine Qvb s hv h hl m (j + 1) f f' (by omega) (by omega) (by omega) (by omega) ?_
      intro x hx
      rw [Gi _ j hjl] at hx
      rcases List.mem_append.1 hx with h' | h'
      · exact hok x h'
      · rw [List.mem_singleton] at h'; subst h'; exact hb rfl
theorem Qiy (s : Qs) (c : Qq) (hc : c.Labels.length < 4611686018427387904) (hcl : ∀ l ∈ c.Labels, Fa l) (h : Zi) (hl : h.Items.length ≤ 64) (hok : ∀ x ∈ h.Items, Lp s x.Subset) : ∀ (m j f f' : Nat), h.Items.length - j = m → j ≤ h.Items.length → m < f → m < f' →
    ∃ r, Qr (Ur c h (Wv s, 0)) f (j : Int) = some r ∧ Qr (Ma s c h) f' (j : Int) = some r
  | m, j, 0, _, _, _, h, _ => by omega
  | m, j, _ + 1, 0, _, _, _, h => by omega
  | 0, j, f + 1, f' + 1, hm, hj, _, _ => by
    rw [Zt, Zt]; simp only [Ur, Ma]
    rw [if_neg (by omega), if_neg (by omega)]
    exact ⟨_, rfl, rfl⟩
  | m + 1, j, f + 1, f' + 1, hm, hj, hf, hf' => by
    rw [Zt, Zt]; simp only [Ur, Ma, Qja, Qjb]
    have hjl : j < h.Items.length := by omega
    obtain ⟨⟨k, b⟩, e1, e2⟩ := Xb9 s c hc hcl h.Items[j].Subset (hok _ (List.getElem_mem hjl))
    have ih := Qiy s c hc hcl h hl hok m (j + 1) f f' (by omega) (by omega) (by omega) (by omega)
    rw [show ((j + 1 : Nat) : Int) = (j : Int) + 1 from by omega] at ih
    rw [if_pos (by omega), if_pos (by omega), Kd hjl, bind_some, bind_some, e1, e2, bind_some, bind_some, Xu (by omega) (by omega)]
    cases b with
    | false => simp only [Bool.not_false, cond_true, cond_false]; exact ih
    | true =>
      simp only [Bool.not_true, cond_true, cond_false]
      rw [bind_some, rdecr_eq, bind_some]
      by_cases he : Jk (Dc k h.Items[j].Box) (Xf 53#8) 0#64 = h.Check
      · rw [if_pos he, if_pos he]; exact ⟨_, rfl, rfl⟩
      · rw [if_neg he, if_neg he]; exact ih
theorem Xdn (s : Qs) (c : Qq) (hc : c.Labels.length < 4611686018427387904) (hcl : ∀ l ∈ c.Labels, Fa l) (h : Zi) (hi : h.Items.length < 4611686018427387904) : ∃ r, Qdo s c h = some r ∧ Qc9 s c h = some r := by
  unfold Qdo Qc9 Ut
  rw [Qog, bind_some, Mr, bind_some]
  cases hv : Yp s with
  | false => exact ⟨_, rfl, rfl⟩
  | true =>
    simp only [if_true, Bool.not_true, cond_false]
    have he : Qr (Qdt ([] : List Xo) (Wv s, true)) Xb 0 = some (Wv s, 0) := rfl
    rw [he, bind_some, if_neg (by simp)]
    unfold Qjg Ic Bo
    have hbad : ∃ r : W2 × Int, some (k0, (8 : Int)) = some r ∧ (Option.bind (some false) fun x2 => bif !x2 then some (k0, (8 : Int)) else Qr (Ma s c h) Xb 0) = some r := ⟨_, rfl, rfl⟩
    by_cases h1 : (64 : Int) < (h.Items.length : Int)
    · rw [if_pos h1, if_pos h1]; exact hbad
    · rw [if_neg h1, if_neg h1]
      by_cases h2 : h.Base ≠ 0#64
      · rw [if_pos h2, if_pos h2]; exact hbad
      · rw [if_neg h2, if_neg h2]
        by_cases h3 : (0 : Int) < (h.Points.length : Int)
        · rw [if_pos h3, if_pos (show (h.Points.length : Int) ≠ 0 by omega)]; exact hbad
        · rw [if_neg h3, if_neg (show ¬ ((h.Points.length : Int) ≠ 0) by omega)]
          by_cases h4 : h.Box ≠ k0
          · rw [if_pos h4, decide_eq_true h4]; exact hbad
          · rw [if_neg h4, decide_eq_false h4]
            simp only [cond_false]
            unfold Qjx Qjz
            rcases Qvb s hv h (by omega) _ 0 Xb Xb rfl (by omega) (Ki (by omega)) (Ki (by omega)) (by simp) with ⟨i, e1, e2⟩ | ⟨e1, e2, e3⟩
            · rw [show ((0 : Nat) : Int) = 0 from rfl] at e1 e2
              rw [e1, e2, bind_some, bind_some, decide_eq_true (by omega)]; exact hbad
            · rw [show ((0 : Nat) : Int) = 0 from rfl] at e1 e2
              rw [e1, e2, bind_some, bind_some, bind_some]
              exact Qiy s c hc hcl h (by omega) e3 _ 0 Xb Xb rfl (by omega) (Ki (by omega)) (Ki (by omega))
end Go.Sx

end
section
set_option linter.unusedVariables false
set_option linter.unusedSimpArgs false
set_option linter.unusedSectionVars false
set_option maxRecDepth 100000
namespace Go.Sx.Po
open Go
def fi (q : Nat) [NeZero q] (n : Nat) : Fin q := Fin.ofNat q n
abbrev fe {q : Nat} (a : Fin q) : BitVec 64 := bn a.val
section
variable {q : Nat} [NeZero q]
theorem Qet (n : Nat) : (fi q n).val = n % q := rfl
theorem Qif (a : Fin q) : fi q a.val = a := by apply Fin.ext; rw [Qet]; exact Nat.mod_eq_of_lt a.isLt
theorem Qme (a b : Nat) : fi q (a + b) = fi q a + fi q b := by apply Fin.ext; simp [fi, Fin.ofNat, Fin.add_def]
theorem Qmh (a b : Nat) : fi q (a * b) = fi q a * fi q b := by apply Fin.ext; simp [fi, Fin.ofNat, Fin.mul_def]
theorem Qmg (n : Nat) : fi q (n % q) = fi q n := by apply Fin.ext; rw [Qet, Qet, Nat.mod_mod]
theorem Xb6 : fi q 1 = 1 := rfl
theorem Qrk : fi q q = 0 := by apply Fin.ext; rw [Qet, Nat.mod_self]; rfl
theorem Xb8 {a b : Nat} (h : b ≤ a) : fi q (a - b) = fi q a - fi q b := by
  have := Qme (q := q) (a - b) b
  rw [Nat.sub_add_cancel h] at this
  grind
theorem Qmf {n : Nat} (h : n < q) : (fi q n).val = n := Nat.mod_eq_of_lt h
theorem Xb7 {a b : Nat} (ha : a < q) (hb : b < q) (h : fi q a = fi q b) : a = b := by rw [← Qmf ha, ← Qmf hb, h]
theorem Qmd {n : Nat} (h : n < q) : fe (fi q n) = bn n := by unfold fe; rw [Qmf h]
theorem Qmk (q1 : 2 ≤ q) (q2 : q ≤ 1048575) (a b : Fin q) : Sh (bn q) [fe a, fe b] = some (fe (a * b)) := by
  rw [Qn0 q1 q2 a.isLt b.isLt]; rfl
theorem Xbd (q1 : 2 ≤ q) (q2 : q ≤ 1048575) (a b : Fin q) : Qfd (bn q) (fe a) (fe b) = some (fe (a - b)) := by
  have ha := a.isLt
  have hb := b.isLt
  unfold Qfd fe
  rw [Uo, Qda (by omega) (by omega), Yi (by omega) (by omega) (by omega), bind_some, Fin.sub_def]
  simp only
  congr 3; omega
theorem Xbc (q1 : 2 ≤ q) (q2 : q ≤ 1048575) (a b : Fin q) : Qgb (bn q) (fe a) (fe b) = some (fe (a - b)) := by
  have ha := a.isLt
  have hb := b.isLt
  unfold Qgb fe
  rw [Yi (by omega) (by omega) (by omega), bind_some, Nat.mod_eq_of_lt hb, Uo, Qda (by omega) (by omega), Yi (by omega) (by omega) (by omega), bind_some, Fin.sub_def]
  simp only
  congr 3; omega
theorem Xbe {q a : Nat} (hP : Dl q) (h0 : 0 < a) (h1 : a < q) : Nat.gcd q a = 1 := by
  have hg : Nat.gcd q a ∣ q := Nat.gcd_dvd_left q a
  have hga : Nat.gcd q a ∣ a := Nat.gcd_dvd_right q a
  have hle := Nat.le_of_dvd h0 hga
  have hpos : 0 < Nat.gcd q a := Nat.gcd_pos_of_pos_right _ h0
  rcases Nat.lt_or_ge (Nat.gcd q a) 2 with h | h
  · omega
  · exfalso
    obtain ⟨k, hk⟩ := hg
    have hk2 : 2 ≤ k := by
      rcases k with _ | _ | k
      · simp at hk; omega
      · simp at hk; omega
      · omega
    rcases Nat.le_total (Nat.gcd q a) k with hgk | hgk
    · refine hP.2 _ h ?_ (Nat.mod_eq_zero_of_dvd ⟨k, hk⟩)
      calc _ ≤ Nat.gcd q a * k := Nat.mul_le_mul_left _ hgk
        _ = q := hk.symm
    · refine hP.2 k hk2 ?_ (Nat.mod_eq_zero_of_dvd ⟨Nat.gcd q a, by rw [Nat.mul_comm]; exact hk⟩)
      calc k * k ≤ Nat.gcd q a * k := Nat.mul_le_mul_right _ hgk
        _ = q := hk.symm
theorem Qvp (n : Nat) : wd (n : Int) = bn n := Qd5 n
theorem Xha (a b : Nat) : Int.tdiv (a : Int) (b : Int) = ((a / b : Nat) : Int) := rfl
theorem Qof (a b : Nat) : Int.tmod (a : Int) (b : Int) = ((a % b : Nat) : Int) := rfl
theorem Xhc (a b : Nat) : Int.tmod (-(a : Int)) (b : Int) = -((a % b : Nat) : Int) := by rw [Int.neg_tmod]; rfl
theorem Xe7 {a b : Int} (h : b ≠ 0) : Yy a b = some (Qi (a.tdiv b)) := if_neg h
theorem Qo0 {a b : Int} (h : b ≠ 0) : Kv a b = some (a.tmod b) := if_neg h
theorem Xbm {m : Nat} (m1 : 2 ≤ m) (m2 : m ≤ 1048575) (σ : Int) (hσ : σ = 1 ∨ σ = -1) (S : Nat) (hS : S ≤ m) :
    ∃ x : Nat, x < m ∧ (∃ j : Int, (x : Int) = σ * S + j * m) ∧ (Option.bind (Kv (σ * S) (Qi (un (bn m)))) fun x12 => (Option.bind (Kv (Qi (x12 + (Qi (un (bn m))))) (Qi (un (bn m)))) fun x13 => ((some (wd x13, (0 : Int)))))) = some (bn x, 0) := by
  have hun : Qi (un (bn m)) = (m : Int) := by rw [show un (bn m) = (m : Int) from by unfold un; rw [Yk (by omega)]]; exact Xu (by omega) (by omega)
  have Jt := Nat.mod_lt S (show 0 < m by omega)
  have hdm := Nat.div_add_mod S m
  rw [hun, Qo0 (by omega), bind_some]
  rcases hσ with rfl | rfl
  · refine ⟨S % m, Jt, ⟨-((S / m : Nat) : Int), ?_⟩, ?_⟩
    · have : ((m * (S / m) + S % m : Nat) : Int) = (S : Int) := by rw [hdm]
      grind
    · rw [Int.one_mul, Qof, Xu (by omega) (by omega), Qo0 (by omega), bind_some, show ((S % m : Nat) : Int) + (m : Int) = ((S % m + m : Nat) : Int) from by omega, Qof, Nat.add_mod_right, Nat.mod_mod, Qvp]
  · refine ⟨(m - S % m) % m, Nat.mod_lt _ (by omega), ⟨((S / m : Nat) : Int) + (if S % m = 0 then 0 else 1), ?_⟩, ?_⟩
    · have : ((m * (S / m) + S % m : Nat) : Int) = (S : Int) := by rw [hdm]
      by_cases h0 : S % m = 0
      · rw [if_pos h0, h0, Nat.sub_zero, Nat.mod_self]; rw [h0] at this; grind
      · rw [if_neg h0, Nat.mod_eq_of_lt (by omega)]
        have e : ((m - S % m : Nat) : Int) = (m : Int) - ((S % m : Nat) : Int) := by omega
        rw [e]; grind
    · rw [show (-1 : Int) * (S : Int) = -(S : Int) from by omega, Xhc, Xu (by omega) (by omega), Qo0 (by omega), bind_some, show -((S % m : Nat) : Int) + (m : Int) = ((m - S % m : Nat) : Int) from by omega, Qof, Qvp]
theorem Qrw {m : Nat} (m1 : 2 ≤ m) (m2 : m ≤ 1048575) (a : Int) : ∀ (f R N S T : Nat) (σ k l : Int), (σ = 1 ∨ σ = -1) → N < f → R ≤ m → N < R → S ≤ m → R * T + N * S = m → Nat.gcd R N = 1 → (R : Int) = (σ * S) * a + k * m → (N : Int) = (-σ * T) * a + l * m →
    ∃ x : Nat, x < m ∧ (∃ j : Int, (x : Int) * a = 1 + j * m) ∧ Qr (Qbl (bn m)) f ((R : Int), (N : Int), σ * S, -σ * T) = some (bn x, 0)
  | 0, R, N, S, T, σ, k, l, _, h, _, _, _, _, _, _, _ => by omega
  | f + 1, R, N, S, T, σ, k, l, hσ, hf, hR, hNR, hS, hm, hg, h1, h2 => by
    rw [Zt]; simp only [Qbl]
    by_cases h0 : N = 0
    · subst h0
      rw [if_neg (by simp)]
      have hR1 : R = 1 := by simpa using hg
      subst hR1
      rw [if_neg (by simp)]
      obtain ⟨x, x1, ⟨j, x2⟩, x3⟩ := Xbm m1 m2 σ hσ S hS
      refine ⟨x, x1, ⟨j * a - k, ?_⟩, x3⟩
      rw [x2]; grind
    · have hq0 : R / N * N ≤ R := Nat.div_mul_le_self R N
      have hdm := Nat.div_add_mod R N
      have Jt := Nat.mod_lt R (show 0 < N by omega)
      have hqm : R / N ≤ m := Nat.le_trans (Nat.div_le_self R N) hR
      have hgr : Nat.gcd N (R % N) = 1 := by rw [← hg, Nat.gcd_comm R N, Nat.gcd_rec N R, Nat.gcd_comm]
      rw [if_pos (by omega), Xe7 (by omega), bind_some, Xha]
      generalize R / N = Q at *
      generalize R % N = M at *
      have hTm : T ≤ m := by
        have : 1 * T ≤ R * T := Nat.mul_le_mul_right _ (by omega)
        omega
      have hqT : Q * T ≤ m := by
        have h3 : N * (Q * T) ≤ R * T := by rw [← Nat.mul_assoc]; exact Nat.mul_le_mul_right _ (by rw [Nat.mul_comm]; exact hq0)
        have h4 : 1 * (Q * T) ≤ N * (Q * T) := Nat.mul_le_mul_right _ (by omega)
        omega
      rw [Xu (n := ((Q : Nat) : Int)) (by omega) (by omega)]
      have e1 : Qi ((R : Int) - Qi (((Q : Nat) : Int) * (N : Int))) = ((M : Nat) : Int) := by
        have : ((Q : Nat) : Int) * (N : Int) = ((Q * N : Nat) : Int) := by push_cast; rfl
        rw [this, Xu (n := ((Q * N : Nat) : Int)) (by omega) (by omega), Xu (by omega) (by omega)]
        rw [Nat.mul_comm] at hq0
        have : ((N * (Q) + M : Nat) : Int) = (R : Int) := by rw [hdm]
        rw [Nat.mul_comm (Q) N]; omega
      have e2 : Qi (((Q : Nat) : Int) * (-σ * (T : Int))) = -σ * ((Q * T : Nat) : Int) := by
        have e : ((Q : Nat) : Int) * (-σ * (T : Int)) = -σ * ((Q * T : Nat) : Int) := by push_cast; grind
        rw [e]
        rcases hσ with rfl | rfl <;> exact Xu (by omega) (by omega)
      have e3 : Qi (σ * (S : Int) - -σ * ((Q * T : Nat) : Int)) = -(-σ) * ((S + Q * T : Nat) : Int) := by
        have e : σ * (S : Int) - -σ * ((Q * T : Nat) : Int) = -(-σ) * ((S + Q * T : Nat) : Int) := by push_cast; grind
        rw [e]
        rcases hσ with rfl | rfl <;> exact Xu (by omega) (by omega)
      rw [e1, e2, e3]
      have hc : ((N * (Q) + M : Nat) : Int) = (R : Int) := by rw [hdm]
      refine Qrw m1 m2 a f N (M) T (S + Q * T) (-σ) l (k - ((Q : Nat) : Int) * l) (by rcases hσ with rfl | rfl <;> simp) (by omega) (by omega) Jt hTm ?_ ?_ ?_ ?_
      · have : N * (S + Q * T) + M * T = N * S + (N * (Q) + M) * T := by grind
        rw [this, hdm]; omega
      · exact hgr
      · exact h2
      · push_cast at hc ⊢
        grind
theorem Qrx (q1 : 2 ≤ q) (q2 : q ≤ 1048575) (α : Fin q) : ∀ (f A B : Nat) (X Y : Fin q), B < f → A ≤ q → B ≤ q → Nat.gcd A B = 1 → fi q A = X * α → fi q B = Y * α →
    ∃ x : Fin q, x * α = 1 ∧ Qr (Qbw (bn q)) f (bn A, fe X, bn B, fe Y) = some (fe x, true)
  | 0, A, B, X, Y, h, _, _, _, _, _ => by omega
  | f + 1, A, B, X, Y, hf, hA, hB, hg, h1, h2 => by
    rw [Zt]; simp only [Qbw]
    have hX := X.isLt
    have hY := Y.isLt
    by_cases h0 : B = 0
    · subst h0
      have hA1 : A = 1 := by simpa using hg
      subst hA1
      rw [if_neg (by simp)]
      exact ⟨X, h1.symm.trans Xb6, rfl⟩
    · have Jt := Nat.mod_lt A (show 0 < B by omega)
      have hdm := Nat.div_add_mod A B
      have hle := Nat.div_le_self A B
      have hq0 : A / B * B ≤ A := Nat.div_mul_le_self A B
      have hz : ¬ bn B = 0#64 := Qks (by omega) (by omega)
      have hmq := Nat.mod_lt (A / B) (show 0 < q by omega)
      have hp1 : A / B % q * Y.val ≤ 1048575 * 1048575 := Nat.mul_le_mul (by omega) (by omega)
      have hm2 := Nat.mod_lt (A / B % q * Y.val) (show 0 < q by omega)
      rw [if_pos hz, Qtl (by omega) (by omega) (by omega), bind_some, Yi (by omega) (by omega) (by omega), bind_some, Dn, Yi (by omega) (by omega) (by omega), bind_some, Qda (by omega) (by omega), Uo, Yi (by omega) (by omega) (by omega), bind_some, Dn, Qda (by omega) (by omega)]
      have e : A - A / B * B = A % B := by rw [Nat.mul_comm] at hq0 ⊢; omega
      rw [e]
      have hA' : fi q A = fi q B * fi q (A / B) + fi q (A % B) := by rw [← Qmh, ← Qme, hdm]
      have hY' : fi q ((X.val + (q - A / B % q * Y.val % q)) % q) = X - fi q (A / B) * Y := by
        rw [Qmg, Qme, Qif, Xb8 (by omega), Qrk, Qmg, Qmh, Qmg, Qif]; grind
      rw [show bn ((X.val + (q - A / B % q * Y.val % q)) % q) = fe (X - fi q (A / B) * Y) from by rw [← hY', Qmd (Nat.mod_lt _ (by omega))]]
      refine Qrx q1 q2 α f B (A % B) Y _ (by omega) hB (by omega) ?_ h2 ?_
      · rw [← hg, Nat.gcd_comm A B, Nat.gcd_rec B A, Nat.gcd_comm]
      · grind
theorem Xbn (hP : Dl q) (q2 : q ≤ 1048575) {α : Fin q} (hα : α ≠ 0) : ∃ x : Fin q, α * x = 1 ∧ Qbk (fe α) (bn q) = some (fe x, 0) ∧ Qbv (fe α) (bn q) = some (fe x, true) := by
  have q1 := hP.1
  have ha := α.isLt
  have h0 : 0 < α.val := by
    rcases Nat.eq_zero_or_pos α.val with h | h
    · exact absurd (Fin.ext h) hα
    · exact h
  have hg := Xbe hP h0 ha
  obtain ⟨x, x1, ⟨j, x2⟩, x3⟩ := Qrw q1 q2 (α.val : Int) Xb q α.val 0 1 (-1) 1 0 (.inr rfl) (Ki (by omega)) (Nat.le_refl _) ha (by omega) (by omega) hg (by simp) (by simp)
  obtain ⟨y, y1, y2⟩ := Qrx q1 q2 α Xb α.val q 1 0 (Ki (by omega)) (by omega) (Nat.le_refl _) (by rw [Nat.gcd_comm]; exact hg) (by rw [Qif]; grind) (by rw [Qrk]; grind)
  have hx : fi q x * α = 1 := by
    have h1 : fi q (x * α.val) = fi q x * α := by rw [Qmh, Qif]
    rw [← h1]
    apply Fin.ext
    have e1 : (1 : Fin q).val = 1 := Nat.mod_eq_of_lt (show 1 < q by omega)
    rw [Qet, e1]
    have h2 : ((x * α.val % q : Nat) : Int) = 1 := by
      push_cast
      rw [x2, Int.add_mul_emod_self_right]
      exact Int.emod_eq_of_lt (by omega) (by omega)
    omega
  have hxy : fi q x = y := by grind
  refine ⟨y, by grind, ?_, ?_⟩
  · unfold Qbk Qbm
    have hun : ∀ n : Nat, n < 9223372036854775807 → Qi (un (bn n)) = (n : Int) := fun n hn => by rw [show un (bn n) = (n : Int) from by unfold un; rw [Yk (by omega)]]; exact Xu (by omega) (by omega)
    rw [show (1#64) = bn 1 from rfl, if_pos ((Lr (by omega) (by omega)).2 (by omega)), bind_some, show (4294967296#64) = bn 4294967296 from rfl, decide_eq_true ((Wy (by omega) (by omega)).2 (by omega))]
    simp only [Bool.not_true, cond_false]
    rw [Yi (by omega) (by omega) (by omega), bind_some, Nat.mod_eq_of_lt ha, hun q (by omega), hun _ (by omega)]
    rw [show (0 : Int) = -1 * ((0 : Nat) : Int) from by simp, show (1 : Int) = -(-1) * ((1 : Nat) : Int) from by simp] 
    rw [← hxy, Qmd x1]
    exact x3
  · unfold Qbv
    rw [show (1#64) = bn 1 from rfl, Yi (by omega) (by omega) (by omega), bind_some, Yi (by omega) (by omega) (by omega), bind_some, Nat.mod_eq_of_lt ha, Nat.mod_eq_of_lt (show 1 < q by omega)]
    have e1 : bn 1 = fe (1 : Fin q) := by unfold fe; rw [show (1 : Fin q).val = 1 from Nat.mod_eq_of_lt (show 1 < q by omega)]
    have e0 : (0#64) = fe (0 : Fin q) := rfl
    rw [e1, e0]
    exact y2
end
end Go.Sx.Po

end
section
set_option linter.unusedVariables false
set_option linter.unusedSimpArgs false
set_option maxRecDepth 100000
namespace Go.Sx.Po
open Go
theorem getD_some {l : List Int} {j : Nat} (h : j < l.length) : l.getD j 0 = l[j] := by simp [List.getD, h]
theorem Ul {R : Type} (p : Nat → Bool) (D E : Option R) : ∀ (l : List Nat) (F : Nat → (Unit → Option R) → Unit → Option R), (∀ a ∈ l, ∀ nx s, F a nx s = bif p a then nx s else E) → Vf F (fun _ => D) l () = bif l.all p then D else E
  | [], F, h => rfl
  | a :: l, F, h => by
    rw [Cf, h a (by simp), List.all_cons]
    cases p a with
    | false => rfl
    | true => rw [cond_true, Bool.true_and]; exact Ul p D E l F (fun b hb => h b (by simp [hb]))
end Go.Sx.Po

end
section
set_option linter.unusedVariables false
set_option linter.unusedSimpArgs false
set_option maxRecDepth 100000
namespace Go.Sx.Po
open Go
theorem Xdt {b n p : Nat} (hb : b < 18446744073709551616) (hn : n < 18446744073709551616) (hp : 1 ≤ p) (hp2 : p < 4294967296) : Qf2 (bn b) (bn n) (bn p) = some (bn (b ^ n % p), 0) := by
  unfold Qf2 Qbm
  rw [show (1#64) = bn 1 from rfl, if_pos ((Lr (by omega) (by omega)).2 hp), bind_some, show (4294967296#64) = bn 4294967296 from rfl, decide_eq_true ((Wy (by omega) (by omega)).2 hp2)]
  simp only [Bool.not_true, cond_false]
  rw [Qtf hb hn (by omega) hp2, bind_some]
section
variable {s : Qs} {d t p q g : Nat}
theorem Qtg (h : Tu s d t p q g) {b n : Nat} (hb : b < 18446744073709551616) (hn : n < 18446744073709551616) : Qbt s (bn b) (bn n) = some (bn (b ^ n % p)) := by
  obtain ⟨p1, p2⟩ := h.pb
  unfold Qbt
  rw [h.grp]
  simp only
  rw [Xdt hb hn (by omega) (by omega), bind_some]
end
section
variable {s : Qs} {d t p q g : Nat}
end
end Go.Sx.Po

end
section
set_option linter.unusedVariables false
set_option linter.unusedSimpArgs false
namespace Go.Sx.Po.Cy
open Go
theorem Pj (n : Nat) (x : BitVec 64) (l : List (BitVec 8)) (k : Nat) (hk : k < 8) (hl : l.length = k) : Qr (Tj 8) (n + 1) (x, l, (k : Int)) = Qr (Tj 8) n (x >>> 8, x.setWidth 8 :: l, ((k + 1 : Nat) : Int)) := by
  rw [Zt]
  simp only [Tj]
  rw [if_pos (by omega), Qo1, bind_some, Vd (by simp; omega), bind_some, Qnh, bind_some, Qnz, Xu (by omega) (by omega)]
  rfl
theorem Qdf (x : BitVec 64) : Ni x 8 = some (w8 x) := by
  unfold Ni
  rw [show Xb = 18446744073709551607 + 9 from rfl, show (0 : Int) = ((0 : Nat) : Int) from rfl]
  rw [Pj _ _ _ 0 (by decide) rfl, Pj _ _ _ 1 (by decide) rfl, Pj _ _ _ 2 (by decide) rfl, Pj _ _ _ 3 (by decide) rfl, Pj _ _ _ 4 (by decide) rfl, Pj _ _ _ 5 (by decide) rfl, Pj _ _ _ 6 (by decide) rfl, Pj _ _ _ 7 (by decide) rfl, Zt]
  simp only [Tj]
  rw [if_neg (by omega)]
  simp only [← BitVec.shiftRight_add]
  rfl
def Kw (l : List (BitVec 8)) : BitVec 64 := l.foldl (fun n c => 256#64 * n + c.setWidth 64) 0#64
theorem Bb (l : List (BitVec 8)) (c : BitVec 8) : Kw (l ++ [c]) = 256#64 * Kw l + c.setWidth 64 := by simp [Kw]
theorem Ms (l : List (BitVec 8)) (hx : l.length ≤ 1000) : ∀ (m i fuel : Nat), l.length - i = m → i ≤ l.length → m < fuel → Qr (Gg l) fuel (Kw (l.take i), (i : Int)) = some (Kw l)
  | m, i, 0, _, _, hf => by omega
  | 0, i, fuel + 1, hm, hi, hf => by
    rw [Zt]; simp only [Gg]; rw [if_neg (by omega), List.take_of_length_le (by omega)]
  | m + 1, i, fuel + 1, hm, hi, hf => by
    rw [Zt]; simp only [Gg]
    rw [if_pos (by omega), Kd (by omega), bind_some, ← Bb, ← Gi _ _ (by omega), Xu (by omega) (by omega)]
    exact Ms l hx m (i + 1) fuel (by omega) (by omega) (by omega)
theorem Oi (l : List (BitVec 8)) (h : l.length ≤ 1000) : Cw l = some (Kw l) := Ms l h _ 0 Xb rfl (by omega) (Ki (by omega))
theorem Mm (a : BitVec 64) (c : BitVec 8) : (a <<< 8) ||| (c.setWidth 64) = 256#64 * a + c.setWidth 64 := by
  have e1 : 256#64 * a = a <<< 8 := by
    apply BitVec.eq_of_toNat_eq
    rw [BitVec.toNat_mul, BitVec.toNat_shiftLeft, Nat.shiftLeft_eq, Nat.mul_comm]; rfl
  rw [e1]
  symm
  apply BitVec.add_eq_or_of_and_eq_zero
  apply BitVec.eq_of_getLsbD_eq
  intro j hj
  rw [BitVec.getLsbD_and, BitVec.getLsbD_shiftLeft, BitVec.getLsbD_setWidth, BitVec.getLsbD_zero]
  by_cases h : j < 8
  · simp [h]
  · simp [BitVec.getLsbD_of_ge c j (by omega)]
theorem Qkx (x : BitVec 64) (k : Nat) : (Kg x k).setWidth 64 = wd (bt x k) := by
  rw [Qou]
  apply BitVec.eq_of_toNat_eq
  unfold Kg
  rw [BitVec.toNat_setWidth, BitVec.toNat_setWidth, BitVec.toNat_and]
  have : (255#64 : BitVec 64).toNat = 2 ^ 8 - 1 := rfl
  rw [this, Nat.and_two_pow_sub_one_eq_mod]
  omega
theorem Pv (x : BitVec 64) (k : Nat) (hk : k < 8) : 256#64 * (x >>> (64 - 8 * k)) + (Kg x k).setWidth 64 = x >>> (64 - 8 * (k + 1)) := by
  rw [← Mm, Qkx, Iz x k hk]
theorem Qh0 (x : BitVec 64) : Kw (w8 x) = x := by
  have h0 := Pv x 0 (by decide)
  have h1 := Pv x 1 (by decide)
  have h2 := Pv x 2 (by decide)
  have h3 := Pv x 3 (by decide)
  have h4 := Pv x 4 (by decide)
  have h5 := Pv x 5 (by decide)
  have h6 := Pv x 6 (by decide)
  have h7 := Pv x 7 (by decide)
  have hz : x >>> 64 = 0#64 := by apply BitVec.eq_of_toNat_eq; rw [BitVec.toNat_ushiftRight, Nat.shiftRight_eq_div_pow, Nat.div_eq_of_lt x.isLt]; rfl
  simp only [Nat.mul_zero, Nat.sub_zero, hz] at h0
  simp only [Kw, w8, List.foldl_cons, List.foldl_nil, h0, h1, h2, h3, h4, h5, h6, h7]
  simp
theorem Oo (p : W2) : Cz p = some p := by
  unfold Cz
  rw [show ((Xz p).take 8).drop 0 = w8 p.1 from rfl, show ((Xz p).take 16).drop 8 = w8 p.2 from rfl, Oi _ (by rw [Sv]; omega), bind_some, Oi _ (by rw [Sv]; omega), bind_some, Qh0, Qh0]
theorem Iw (x : BitVec 64) (n : Nat) (h1 : 1 ≤ n) (h2 : n ≤ 63) : Rn x (n : Int) = some (Yj x (64 - n)) := by
  unfold Rn Yj
  have e1 : Jq (n : Int) = some n := by unfold Jq; rw [if_pos (by omega)]; rfl
  have e2 : Jq (Qi (64 - (n : Int))) = some (64 - n) := by rw [Xu (by omega) (by omega)]; unfold Jq; rw [if_pos (by omega)]; congr 1; omega
  rw [e1, bind_some, e2, bind_some, BitVec.or_comm, show 64 - (64 - n) = n from by omega]
theorem Qgt (x : BitVec 64) (n : Nat) (h1 : 1 ≤ n) (h2 : n ≤ 63) : Cx x (n : Int) = some (Yj x n) := by
  unfold Cx
  rw [Xu (by omega) (by omega), show (64 : Int) - (n : Int) = ((64 - n : Nat) : Int) from by omega, Iw x (64 - n) (by omega) (by omega), bind_some, show 64 - (64 - n) = n from by omega]
def Wo (k : W2) (n : Nat) : List (BitVec 64) := (List.range n).map fun i => (ks k i).2
theorem Qo4 (k : W2) (n : Nat) : Wo k (n + 1) = Wo k n ++ [(ks k n).2] := by simp [Wo, List.range_succ]
theorem Qgs (k : W2) (n : Nat) : (Wo k n).length = n := by simp [Wo]
theorem Qgq (k : W2) : ∀ (m i f : Nat), i + m = 31 → m < f → Qr Sj f ((ks k i).1, (ks k i).2, Wo k (i + 1), (i : Int)) = some (Wo k 32)
  | m, i, 0, _, h => by omega
  | 0, i, f + 1, hi, _ => by
    obtain rfl : i = 31 := by omega
    rw [Zt]; simp only [Sj]; rw [if_neg (by omega)]
  | m + 1, i, f + 1, hi, hf => by
    rw [Zt]; simp only [Sj]
    have r1 := Iw (ks k i).1 8 (by omega) (by omega)
    have r2 := Qgt (ks k i).2 3 (by omega) (by omega)
    rw [show ((8 : Nat) : Int) = 8 from rfl] at r1
    rw [show ((3 : Nat) : Int) = 3 from rfl] at r2
    rw [if_pos (by omega), r1, bind_some, r2, bind_some, Vd (by rw [Qgs]; simp; omega), bind_some, Xu (by omega) (by omega)]
    have e1 : (((ks k i).2 + Yj (ks k i).1 (64 - 8)) ^^^ wd (i : Int)) = (ks k (i + 1)).1 := by simp [ks, Lk, BitVec.add_comm]
    have e2 : Yj (ks k i).2 3 ^^^ (ks k (i + 1)).1 = (ks k (i + 1)).2 := by simp [ks, Lk]
    rw [e1, e2, ← Qo4]
    exact Qgq k m (i + 1) f (by omega) (by omega)
theorem Qo3 (k : W2) : Aw k = some (Wo k 32) := by
  unfold Aw
  rw [Oo, bind_some]
  exact Qgq k 31 0 Xb (by omega) (Ki (by omega))
theorem Qgr (l : List (BitVec 8)) (hl : l.length = 16) : ∀ (m i fuel : Nat) (p : W2), 16 - i = m → i ≤ 16 → m < fuel → (Xz p).take i = l.take i → Qr (Nj l) fuel ((i : Int), p) = some (Yh l)
  | m, i, 0, p, _, _, hf, _ => by omega
  | 0, i, fuel + 1, p, hm, hi, hf, hp => by
    rw [Zt]; simp only [Nj, Lg]; rw [if_neg (by omega)]
    obtain rfl : i = 16 := by omega
    simp only [cond_false]
    congr 1
    apply Qmp
    rw [Aa (by omega), ← hp, List.take_of_length_le (by simp [Xz])]
  | m + 1, i, fuel + 1, p, hm, hi, hf, hp => by
    rw [Zt]; simp only [Nj, Lg]
    have hk : i < (Xz p).length := by rw [Kj]; omega
    rw [if_pos (by omega), decide_eq_true (by omega)]
    simp only [cond_true]
    rw [Kd (by omega), bind_some, Kd hk, bind_some]
    have hks : Ti p (i : Int) (l[i]'(by omega)) = some (Yh ((Xz p).set i (l[i]'(by omega)))) := by unfold Ti; rw [if_pos (by omega)]; rfl
    rw [hks, bind_some, Xu (by omega) (by omega)]
    refine Qgr l hl m (i + 1) fuel _ (by omega) (by omega) (by omega) ?_
    have hq := (Qms hks).2
    rw [Int.toNat_natCast] at hq
    rw [hq, Gi _ i (by rw [List.length_set]; exact hk), Gi l i (by omega), List.take_set_of_le (Nat.le_refl i), hp]
    simp
theorem Qkr (x y : BitVec 64) : Av x y = some (x, y) := by
  unfold Av Rm
  rw [Qdf, bind_some, Qdf, bind_some, Vd (by simp [w8]), bind_some]
  have := Qgr (w8 x ++ w8 y) (by simp [w8]) _ 0 Xb k0 rfl (by omega) (Ki (by omega)) (by simp)
  rw [show ((0 : Nat) : Int) = 0 from rfl] at this
  rw [this, bind_some, show w8 x ++ w8 y = Xz (x, y) ++ [] from rfl, Qn2]
theorem Qlb (k b : W2) (j : Nat) (h : j < 32) : Yf k b j = Iv (Yf k b (j + 1)) (ks k j).2 := by
  unfold Yf
  rw [show 32 - j = 32 - (j + 1) + 1 from by omega, List.range_succ, List.foldl_append, List.foldl_cons, List.foldl_nil, show 31 - (32 - (j + 1)) = j from by omega]
theorem Qe0 (k b : W2) : ∀ (i f : Nat), i ≤ 32 → i < f → Qr (Si (Wo k 32)) f ((Yf k b i).1, (Yf k b i).2, (i : Int) - 1) = some (Dc k b)
  | i, 0, _, h => by omega
  | 0, f + 1, _, _ => by
    rw [Zt]; simp only [Si]; rw [if_neg (by omega), Qkr, bind_some]; rfl
  | i + 1, f + 1, hi, hf => by
    rw [Zt]; simp only [Si]
    have r1 := Iw ((Yf k b (i + 1)).2 ^^^ (Yf k b (i + 1)).1) 3 (by omega) (by omega)
    have r2 := Qgt (((Yf k b (i + 1)).1 ^^^ (ks k i).2) - Yj ((Yf k b (i + 1)).2 ^^^ (Yf k b (i + 1)).1) (64 - 3)) 8 (by omega) (by omega)
    rw [show ((8 : Nat) : Int) = 8 from rfl] at r2
    rw [show ((3 : Nat) : Int) = 3 from rfl] at r1
    have hg : Xt (Wo k 32) (i : Int) = some (ks k i).2 := by
      rw [Kd (by rw [Qgs]; omega)]; simp [Wo]
    rw [if_pos (by omega), r1, bind_some, show ((i + 1 : Nat) : Int) - 1 = (i : Int) from by omega, hg, bind_some, r2, bind_some, Xu (by omega) (by omega)]
    have ih := Qe0 k b i f (by omega) (by omega)
    rw [Qlb k b i (by omega)] at ih
    unfold Iv at ih
    rw [BitVec.xor_comm (Yf k b (i + 1)).2]
    exact ih
theorem rdecr_eq (k b : W2) : Cu k b = some (Dc k b) := by
  unfold Cu
  rw [Oo, bind_some, Qo3, bind_some]
  exact Qe0 k b 32 Xb (by omega) (Ki (by omega))
end Go.Sx.Po.Cy

end
section
set_option linter.unusedVariables false
set_option linter.unusedSimpArgs false
set_option linter.unusedSectionVars false
set_option maxRecDepth 100000
namespace Go.Sx.Po
open Go
theorem Qeu {α : Type} (l : List α) (hl : l.length < 4611686018427387904) (p : α → Bool) (F : (Int → Option Int) → Int → Option Int)
    (h1 : ∀ rec (j : Nat) (hj : j < l.length), F rec (j : Int) = bif p l[j] then some (j : Int) else rec ((j + 1 : Nat) : Int)) (h2 : ∀ rec, F rec (l.length : Int) = some (-1)) :
    ∀ (m j f : Nat), j + m = l.length → m < f → Qr F f (j : Int) = some (match (l.drop j).findIdx? p with | some i => ((j + i : Nat) : Int) | none => -1)
  | m, j, 0, _, h => by omega
  | 0, j, f + 1, hj, _ => by
    have : j = l.length := by omega
    subst this
    rw [Zt, h2, List.drop_length]; rfl
  | m + 1, j, f + 1, hj, hf => by
    have hjl : j < l.length := by omega
    rw [Zt, h1 _ j hjl, List.drop_eq_getElem_cons hjl, List.findIdx?_cons]
    cases hp : p l[j] with
    | true => rw [cond_true]; simp
    | false =>
      rw [cond_false, Qeu l hl p F h1 h2 m (j + 1) f (by omega) (by omega)]
      simp only [Bool.false_eq_true, if_false]
      cases (l.drop (j + 1)).findIdx? p with
      | none => rfl
      | some i => simp only [Option.map_some]; congr 2; omega
theorem Xba {α : Type} (l : List α) (hl : l.length < 4611686018427387904) (p : α → Bool) (F : (Int → Option Int) → Int → Option Int)
    (h1 : ∀ rec (j : Nat) (hj : j < l.length), F rec (j : Int) = bif p l[j] then some (j : Int) else rec ((j + 1 : Nat) : Int)) (h2 : ∀ rec, F rec (l.length : Int) = some (-1)) :
    Qr F Xb 0 = some (match l.findIdx? p with | some i => (i : Int) | none => -1) := by
  have := Qeu l hl p F h1 h2 l.length 0 Xb (by omega) (Ki (by omega))
  rw [List.drop_zero, show ((0 : Nat) : Int) = 0 from rfl] at this
  rw [this]
  cases l.findIdx? p with
  | none => rfl
  | some i => simp
theorem Xbk {α : Type} (l : List α) (p : α → Bool) : decide ((0 : Int) ≤ (match l.findIdx? p with | some i => (i : Int) | none => -1)) = l.any p := by
  cases h : l.findIdx? p with
  | none =>
    have : l.any p = false := by
      rw [List.findIdx?_eq_none_iff] at h
      rw [List.any_eq_false]; intro x hx; rw [h x hx]; simp
    rw [this]; rfl
  | some i =>
    have : l.any p = true := by
      have h3 := List.findIdx?_eq_some_iff_getElem.1 h
      obtain ⟨h4, h5, _⟩ := h3
      exact List.any_eq_true.2 ⟨_, List.getElem_mem h4, h5⟩
    rw [this]; simp
theorem Xg7 (l : List Qu) (hl : l.length < 4611686018427387904) (y : Qu) : Qgy l y = some (l.any fun x => decide (x.X = y.X)) := by
  unfold Qgy Qjy
  rw [Xba l hl (fun x => decide (x.X = y.X)) _ (fun rec j hj => by
    simp only [Qcw, Qiz]
    rw [if_pos (by omega), Kd hj, bind_some, bind_some, Wp (by omega)]) (fun rec => by
    simp only [Qcw]; rw [if_neg (by omega)]), bind_some, Xbk]
theorem Qss {β : Type} [DecidableEq β] (l : List β) : ((List.range l.length).all fun j => !((l.take j).any fun x => decide (some x = l[j]?))) = decide l.Nodup := by
  rw [Bool.eq_iff_iff, decide_eq_true_eq, List.all_eq_true]
  constructor
  · intro h
    rw [List.Nodup, List.pairwise_iff_getElem]
    intro i j hi hj hij he
    have := h j (by simpa using hj)
    rw [Bool.not_eq_true', List.any_eq_false] at this
    refine this l[i] ?_ (by simp [he, hj])
    rw [List.mem_take_iff_getElem]
    exact ⟨i, by omega, rfl⟩
  · intro h j hj
    have hj' : j < l.length := by simpa using hj
    rw [Bool.not_eq_true', List.any_eq_false]
    intro x hx he
    rw [List.mem_take_iff_getElem] at hx
    obtain ⟨i, hi, rfl⟩ := hx
    rw [decide_eq_true_eq, List.getElem?_eq_getElem hj'] at he
    exact List.pairwise_iff_getElem.1 h i j (by omega) hj' (by omega) (Option.some.inj he)
def Th (l : List Qu) : Bool := decide (l.map (·.X)).Nodup
theorem Qpz (l : List Qu) (hl : l.length < 4611686018427387904) : Qbq l = some (Th l) := by
  unfold Qbq Th
  have := Qih l.length (Al l) (fun j (_ : Unit) => (j : Int)) (fun j nx u => bif !(((l.map (·.X)).take j).any fun x => decide (some x = (l.map (·.X))[j]?)) then nx u else some false) (fun _ => some true)
    (fun rec j hj _ => by
      simp only [Al]
      have hs : Nn l 0 (j : Int) = some (l.take j) := by unfold Nn; rw [if_pos (by omega)]; simp
      rw [if_pos (by omega), Kd hj, bind_some, hs, bind_some, Xg7 _ (by rw [List.length_take]; omega), bind_some, Wp (by omega)]
      have e : ((l.take j).any fun x => decide (x.X = l[j].X)) = (((l.map (·.X)).take j).any fun x => decide (some x = (l.map (·.X))[j]?)) := by
        rw [← List.map_take, List.any_map]
        congr 1; funext x
        simp [hj]
      rw [e]
      cases (((l.map (·.X)).take j).any fun x => decide (some x = (l.map (·.X))[j]?)) <;> rfl)
    (fun rec _ => by simp only [Al]; rw [if_neg (by omega)]) (f := Xb) (Ki (by omega)) ()
  rw [show ((0 : Nat) : Int) = 0 from rfl] at this
  rw [this, Ul _ (some true) (some false) _ _ (fun a _ nx s => rfl)]
  have h2 := Qss (l.map (·.X))
  rw [List.length_map] at h2
  rw [h2]
  cases decide (l.map (·.X)).Nodup <;> rfl
def Vg (s : Qs) (x : Qu) : Bool := decide (1#64 ≤ x.X) && decide (x.X < s.Group.Q) && decide (1#64 ≤ x.Y) && decide (x.Y < s.Group.P)
def Hg (s : Qs) (h : Zi) : Bool := decide (h.Items = []) && decide (1#64 ≤ h.Base) && decide (h.Base < s.Group.P) && decide ((h.Points.length : Int) = s.Degree) && Th h.Points && h.Points.all (Vg s)
def Tn (s : Qs) (c : Qq) : Bool := decide (1#64 ≤ c.Share.X) && decide (c.Share.X < s.Group.Q) && decide (c.Share.Y < s.Group.Q)
theorem Qrn (s : Qs) (c : Qq) (l : List Qu) (hl : l.length < 4611686018427387904) : ∀ (m j f : Nat) (b : Bool), j + m = l.length → m < f → Qr (An s c l (l.length : Int)) f (b, (j : Int)) = some (b && (l.drop j).all (Vg s) && decide (c.Share.Y < s.Group.Q))
  | m, j, 0, b, _, h => by omega
  | 0, j, f + 1, b, hj, _ => by
    have : j = l.length := by omega
    subst this
    rw [Zt]; simp only [An]
    rw [if_neg (by omega), List.drop_length]
    unfold Qbr
    cases b <;> simp
  | m + 1, j, f + 1, b, hj, hf => by
    have hjl : j < l.length := by omega
    rw [Zt]; simp only [An]
    rw [if_pos (by omega), Kd hjl, bind_some, Wp (by omega), List.drop_eq_getElem_cons hjl, List.all_cons]
    cases b with
    | false => unfold Qbr; simp
    | true =>
      simp only [Bool.not_true, cond_false, Bool.true_and]
      have ih := fun b => Qrn s c l hl m (j + 1) f b (by omega) (by omega)
      by_cases a1 : 1#64 ≤ l[j].X
      · rw [if_pos a1]
        by_cases a2 : l[j].X < s.Group.Q
        · rw [if_pos a2]
          by_cases a3 : 1#64 ≤ l[j].Y
          · rw [if_pos a3, ih]; simp [Vg, a1, a2, a3]
          · rw [if_neg a3, ih]; simp [Vg, a3]
        · rw [if_neg a2, ih]; simp [Vg, a2]
      · rw [if_neg a1, ih]; simp [Vg, a1]
theorem Xbb (s : Qs) (c : Qq) (h : Zi) (hl : h.Points.length * 16 ≤ 140737488351232) (hg : 1#64 < s.Group.P) : Qfe s c h = some (Hg s h && Tn s c) := by
  have j1 : ∀ b, Rh s c h b = some (b && h.Points.all (Vg s) && Tn s c) := by
    intro b
    unfold Rh Qjw Qj0
    rw [Vd (by simp; omega), bind_some, List.nil_append, bind_some, Vd (by simp; omega), bind_some]
    have := Qrn s c (h.Points ++ [⟨c.Share.X, 1#64⟩]) (by simp; omega) _ 0 Xb b (by rw [Nat.zero_add]) (Ki (by simp; omega))
    rw [show ((0 : Nat) : Int) = 0 from rfl] at this
    rw [this, List.drop_zero, List.all_append]
    congr 1
    have : [(⟨c.Share.X, 1#64⟩ : Qu)].all (Vg s) = (decide (1#64 ≤ c.Share.X) && decide (c.Share.X < s.Group.Q)) := by simp [Vg, hg]
    rw [this]; unfold Tn
    cases b <;> cases h.Points.all (Vg s) <;> simp
  unfold Qfe
  by_cases a0 : h.Items = []
  · rw [if_pos (by rw [a0]; rfl)]
    by_cases a1 : 1#64 ≤ h.Base
    · rw [if_pos a1]
      by_cases a2 : h.Base < s.Group.P
      · rw [if_pos a2]
        by_cases a3 : (h.Points.length : Int) = s.Degree
        · rw [if_pos a3, Qpz _ (by omega), bind_some, j1]; simp [Hg, a0, a1, a2, a3]
        · rw [if_neg a3, j1]; simp [Hg, a3]
      · rw [if_neg a2, j1]; simp [Hg, a2]
    · rw [if_neg a1, j1]; simp [Hg, a1]
  · rw [if_neg (by intro e; exact a0 (List.length_eq_zero_iff.1 (by omega))), j1]; simp [Hg, a0]
end Go.Sx.Po

end
section
set_option linter.unusedVariables false
set_option linter.unusedSimpArgs false
set_option linter.unusedSectionVars false
set_option maxRecDepth 100000
namespace Go.Sx.Po
open Go
theorem Qvv {α : Type} (l : List α) (f g : α → Bool) : (l.all fun x => f x && g x) = (l.all f && l.all g) := by
  induction l with
  | nil => rfl
  | cons a l ih => simp only [List.all_cons, ih]; cases f a <;> cases g a <;> simp
theorem Qtm {α : Type} (l : List α) (f : α → Bool) (d : α) : ((List.range l.length).all fun j => f (l.getD j d)) = l.all f := by
  rw [Bool.eq_iff_iff, List.all_eq_true, List.all_eq_true]
  constructor
  · intro h x hx
    obtain ⟨j, hj, rfl⟩ := List.mem_iff_getElem.1 hx
    have := h j (by simpa using hj)
    rwa [List.getD_eq_getElem?_getD, List.getElem?_eq_getElem hj] at this
  · intro h j hj
    have hj' : j < l.length := by simpa using hj
    rw [List.getD_eq_getElem?_getD, List.getElem?_eq_getElem hj']
    exact h _ (List.getElem_mem hj')
theorem Xhs (s : Qs) (h : Zi) (hl : h.Points.length < 4611686018427387904) : Qg8 s h = some (Hg s h) := by
  have inner : ∀ (j : Nat) (hj : j < h.Points.length) (rec2 : Int → Option Bool), Qr (Mj h (j : Int) rec2 h.Points[j]) Xb 0 = bif ((h.Points.take j).any fun x => decide (x.X = h.Points[j].X)) then some false else rec2 ((j + 1 : Nat) : Int) := by
    intro j hj rec2
    have := Qih j (Mj h (j : Int) rec2 h.Points[j]) (fun k (_ : Unit) => (k : Int)) (fun k nx u => bif !decide ((h.Points.getD k default).X = h.Points[j].X) then nx u else some false) (fun _ => rec2 ((j + 1 : Nat) : Int))
      (fun rec k hk _ => by
        have hk' : k < h.Points.length := by omega
        have e : h.Points.getD k default = h.Points[k] := by rw [List.getD_eq_getElem?_getD, List.getElem?_eq_getElem hk']; rfl
        simp only [Mj]
        rw [if_pos (by omega), Kd hk', bind_some, e, Wp (by omega)]
        by_cases hx : h.Points[k].X = h.Points[j].X
        · rw [if_pos hx, decide_eq_true hx]; rfl
        · rw [if_neg hx, decide_eq_false hx]; rfl)
      (fun rec _ => by simp only [Mj]; rw [if_neg (by omega), Wp (by omega)]) (f := Xb) (Ki (by omega)) ()
    rw [show ((0 : Nat) : Int) = 0 from rfl] at this
    rw [this, Ul _ (rec2 ((j + 1 : Nat) : Int)) (some false) _ _ (fun a _ nx s => rfl)]
    have e : ((List.range j).all fun k => !decide ((h.Points.getD k default).X = h.Points[j].X)) = !((h.Points.take j).any fun x => decide (x.X = h.Points[j].X)) := by
      rw [Bool.eq_iff_iff, List.all_eq_true, Bool.not_eq_true', List.any_eq_false]
      constructor
      · intro h1 x hx
        rw [List.mem_take_iff_getElem] at hx
        obtain ⟨i, hi, rfl⟩ := hx
        have hi' : i < h.Points.length := by omega
        have := h1 i (List.mem_range.2 (by omega))
        rw [List.getD_eq_getElem?_getD, List.getElem?_eq_getElem hi'] at this
        simpa using this
      · intro h1 k hk
        have hk1 := List.mem_range.1 hk
        have hk' : k < h.Points.length := by omega
        have := h1 h.Points[k] (by rw [List.mem_take_iff_getElem]; exact ⟨k, by omega, rfl⟩)
        rw [List.getD_eq_getElem?_getD, List.getElem?_eq_getElem hk']
        simpa using this
    rw [e]
    cases ((h.Points.take j).any fun x => decide (x.X = h.Points[j].X)) <;> rfl
  have outer : Qr (Mh s h) Xb 0 = some (Th h.Points && h.Points.all (Vg s)) := by
    have := Qih h.Points.length (Mh s h) (fun j (_ : Unit) => (j : Int)) (fun j nx u => bif Vg s (h.Points.getD j default) && !(((h.Points.map (·.X)).take j).any fun x => decide (some x = (h.Points.map (·.X))[j]?)) then nx u else some false) (fun _ => some true)
      (fun rec j hj _ => by
        have e : h.Points.getD j default = h.Points[j] := by rw [List.getD_eq_getElem?_getD, List.getElem?_eq_getElem hj]; rfl
        have e2 : (((h.Points.map (·.X)).take j).any fun x => decide (some x = (h.Points.map (·.X))[j]?)) = ((h.Points.take j).any fun x => decide (x.X = h.Points[j].X)) := by
          rw [← List.map_take, List.any_map]; congr 1; funext x; simp [hj]
        simp only [Mh, Io]
        rw [if_pos (by omega), Kd hj, bind_some, e, e2]
        by_cases a1 : h.Points[j].X < 1#64
        · rw [if_pos a1]; have : ¬ 1#64 ≤ h.Points[j].X := by rw [BitVec.le_def]; rw [BitVec.lt_def] at a1; omega
          simp [Vg, this]
        · rw [if_neg a1]; have b1 : 1#64 ≤ h.Points[j].X := by rw [BitVec.le_def]; rw [BitVec.lt_def] at a1; omega
          by_cases a2 : s.Group.Q ≤ h.Points[j].X
          · rw [if_pos a2]; have : ¬ h.Points[j].X < s.Group.Q := by rw [BitVec.lt_def]; rw [BitVec.le_def] at a2; omega
            simp [Vg, this]
          · rw [if_neg a2]; have b2 : h.Points[j].X < s.Group.Q := by rw [BitVec.lt_def]; rw [BitVec.le_def] at a2; omega
            by_cases a3 : h.Points[j].Y < 1#64
            · rw [if_pos a3]; have : ¬ 1#64 ≤ h.Points[j].Y := by rw [BitVec.le_def]; rw [BitVec.lt_def] at a3; omega
              simp [Vg, this]
            · rw [if_neg a3]; have b3 : 1#64 ≤ h.Points[j].Y := by rw [BitVec.le_def]; rw [BitVec.lt_def] at a3; omega
              by_cases a4 : s.Group.P ≤ h.Points[j].Y
              · rw [decide_eq_true a4]; have : ¬ h.Points[j].Y < s.Group.P := by rw [BitVec.lt_def]; rw [BitVec.le_def] at a4; omega
                simp [Vg, this]
              · rw [decide_eq_false a4, cond_false, inner j hj]; have b4 : h.Points[j].Y < s.Group.P := by rw [BitVec.lt_def]; rw [BitVec.le_def] at a4; omega
                have : Vg s h.Points[j] = true := by simp [Vg, b1, b2, b3, b4]
                rw [this]
                cases ((h.Points.take j).any fun x => decide (x.X = h.Points[j].X)) <;> rfl)
      (fun rec _ => by simp only [Mh]; rw [if_neg (by omega)]) (f := Xb) (Ki (by omega)) ()
    rw [show ((0 : Nat) : Int) = 0 from rfl] at this
    rw [this, Ul _ (some true) (some false) _ _ (fun a _ nx s => rfl), Qvv, Qtm]
    have h2 := Qss (h.Points.map (·.X))
    rw [List.length_map] at h2
    rw [h2]; unfold Th
    cases decide (h.Points.map (·.X)).Nodup <;> cases h.Points.all (Vg s) <;> rfl
  unfold Qg8 Im
  by_cases a0 : h.Items = []
  · rw [if_neg (by rw [a0]; simp)]
    by_cases a1 : h.Base < 1#64
    · rw [if_pos a1]; have : ¬ 1#64 ≤ h.Base := by rw [BitVec.le_def]; rw [BitVec.lt_def] at a1; omega
      simp [Hg, this]
    · rw [if_neg a1]; have b1 : 1#64 ≤ h.Base := by rw [BitVec.le_def]; rw [BitVec.lt_def] at a1; omega
      by_cases a2 : s.Group.P ≤ h.Base
      · rw [if_pos a2]; have : ¬ h.Base < s.Group.P := by rw [BitVec.lt_def]; rw [BitVec.le_def] at a2; omega
        simp [Hg, this]
      · rw [if_neg a2]; have b2 : h.Base < s.Group.P := by rw [BitVec.lt_def]; rw [BitVec.le_def] at a2; omega
        by_cases a3 : (h.Points.length : Int) = s.Degree
        · rw [decide_eq_false (by simpa using a3), cond_false, outer]; simp [Hg, a0, b1, b2, a3]
        · rw [decide_eq_true a3]; simp [Hg, a3]
  · rw [if_pos (by intro e; exact a0 (List.length_eq_zero_iff.1 (by omega)))]; simp [Hg, a0]
open Classical in
noncomputable def iv {q : Nat} [NeZero q] (a : Fin q) : Fin q := if h : ∃ x, a * x = 1 then Classical.choose h else 0
section
variable {q : Nat} [NeZero q]
theorem Qba (hP : Dl q) (q2 : q ≤ 1048575) {a : Fin q} (ha : a ≠ 0) : a * iv a = 1 ∧ Qbk (fe a) (bn q) = some (fe (iv a), 0) ∧ Qbv (fe a) (bn q) = some (fe (iv a), true) := by
  obtain ⟨x, h1, h2, h3⟩ := Xbn hP q2 ha
  have h4 : a * iv a = 1 := by
    unfold iv; rw [dif_pos ⟨x, h1⟩]; exact Classical.choose_spec (p := fun x => a * x = 1) ⟨x, h1⟩
  have : x = iv a := by grind
  rw [← this]
  exact ⟨h1, h2, h3⟩
theorem Qmi (q1 : 2 ≤ q) : (1 : Fin q).val = 1 := Nat.mod_eq_of_lt (show 1 < q by omega)
theorem Qt3 (q1 : 2 ≤ q) : (1 : Fin q) ≠ 0 := fun h => by
  have := congrArg Fin.val h
  rw [Qmi q1] at this
  exact absurd this (by simp)
theorem Xcr (hP : Dl q) (q2 : q ≤ 1048575) {a b : Fin q} (ha : a ≠ 0) (hb : b ≠ 0) : a * b ≠ 0 := fun h => by
  have h1 := (Qba hP q2 ha).1
  have h2 := (Qba hP q2 hb).1
  refine Qt3 hP.1 ?_
  have : (a * b) * (iv a * iv b) = 1 := by grind
  rw [h] at this
  grind
theorem Xb5 (hP : Dl q) (q2 : q ≤ 1048575) {a b : Fin q} (hb : b ≠ 0) : Qfb (bn q) (fe a) (fe b) = some (fe (a * iv b)) := by
  unfold Qfb
  rw [(Qba hP q2 hb).2.1, bind_some, Qmk hP.1 q2, bind_some]
def Tf (X : Nat → Fin q) (j : Nat) : Nat → Fin q × Fin q
  | 0 => (1, 1)
  | k + 1 => if k ≠ j then ((Tf X j k).1 * X k, (Tf X j k).2 * (X k - X j)) else Tf X j k
noncomputable def Hp (X : Nat → Fin q) (j : Nat) : Nat → Fin q
  | 0 => 1
  | k + 1 => if k = j then Hp X j k else Hp X j k * X k * iv (X k - X j)
theorem Qkl (hP : Dl q) (q2 : q ≤ 1048575) (X : Nat → Fin q) (j : Nat) : ∀ (n : Nat), (∀ k, k < n → k ≠ j → X k - X j ≠ 0) → (Tf X j n).2 ≠ 0 ∧ Hp X j n * (Tf X j n).2 = (Tf X j n).1
  | 0, _ => ⟨Qt3 hP.1, by simp only [Hp, Tf]; grind⟩
  | n + 1, h => by
    obtain ⟨h1, h2⟩ := Qkl hP q2 X j n (fun k hk => h k (by omega))
    simp only [Hp, Tf]
    by_cases e : n = j
    · rw [if_pos e, if_neg (by simpa using e)]; exact ⟨h1, h2⟩
    · rw [if_neg e, if_pos e]
      have h3 := h n (by omega) e
      have h4 := (Qba hP q2 h3).1
      exact ⟨Xcr hP q2 h1 h3, by simp only; grind⟩
theorem Xb3 (hP : Dl q) (q2 : q ≤ 1048575) (X : Nat → Fin q) (j n : Nat) (h : ∀ k, k < n → k ≠ j → X k - X j ≠ 0) : (Tf X j n).1 * iv (Tf X j n).2 = Hp X j n := by
  obtain ⟨h1, h2⟩ := Qkl hP q2 X j n h
  have h3 := (Qba hP q2 h1).1
  grind
theorem Xb4 (hP : Dl q) (q2 : q ≤ 1048575) (X : Nat → Fin q) (n j : Nat) (hn : n < 4611686018427387904) (hj : j < n) (h : ∀ k, k < n → k ≠ j → X k - X j ≠ 0) :
    Qga (bn q) ((List.range n).map fun k => fe (X k)) (j : Int) = some (fe (Hp X j n)) := by
  have q1 := hP.1
  unfold Qga
  refine Ce _ (fun k st => st = (fe (Hp X j k), (k : Int))) n _ (by omega) ?_ ?_ ?_
  · simp only [Hp]
    rw [show fe (1 : Fin q) = 1#64 from by unfold fe; rw [Qmi q1]]; rfl
  · rintro k _ hk rfl
    refine ⟨_, rfl, fun rec => ?_⟩
    simp only [Qcg, Hp]
    rw [if_pos (by simp; omega), Wp (by omega)]
    by_cases e : k = j
    · rw [if_pos (by omega), if_pos e]
    · have h3 := h k hk e
      have hA := (Hp X j k).isLt
      have hX := (X k).isLt
      have hI := (iv (X k - X j)).isLt
      have hp1 : (Hp X j k).val * (X k).val ≤ 1048575 * 1048575 := Nat.mul_le_mul (by omega) (by omega)
      have hm1 := Nat.mod_lt ((Hp X j k).val * (X k).val) (show 0 < q by omega)
      have hp2 : (Hp X j k).val * (X k).val % q * (iv (X k - X j)).val ≤ 1048575 * 1048575 := Nat.mul_le_mul (by omega) (by omega)
      rw [if_neg (by omega), if_neg e, Kd (by simpa using hk), bind_some, Kd (by simpa using hj), bind_some]
      simp only [List.getElem_map, List.getElem_range]
      rw [Xbc q1 q2, bind_some, (Qba hP q2 h3).2.2, bind_some, bind_some, Dn, Yi (by omega) (by omega) (by omega), bind_some]
      simp only
      rw [Dn, Yi (by omega) (by omega) (by omega), bind_some]; rfl
  · rintro _ rfl rec
    simp only [Qcg]
    rw [if_neg (by simp)]
noncomputable def zF (p : Nat) (X : Nat → Fin q) (Y : Nat → Nat) (n : Nat) : Nat → Nat
  | 0 => 1
  | j + 1 => zF p X Y n j * (Y j ^ (Hp X j n).val % p) % p
variable {s : Qs} {d t p g : Nat}
theorem Qvq (hp : 2 ≤ p) (X : Nat → Fin q) (Y : Nat → Nat) (n : Nat) : ∀ j, zF p X Y n j < p
  | 0 => by simp only [zF]; omega
  | j + 1 => Nat.mod_lt _ (by omega)
theorem Qiy (h : Tu s d t p q g) (hd : Zi) (l : List Qu) (X : Nat → Fin q) (Y : Nat → Nat) (hl : l.length < 4611686018427387904) (hX : ∀ k (hk : k < l.length), l[k].X = fe (X k)) (hY : ∀ k (hk : k < l.length), l[k].Y = bn (Y k) ∧ Y k < p) (hne : ∀ k j, k < l.length → j < l.length → k ≠ j → X k - X j ≠ 0) :
    Qr (Cr s hd l) Xb (1#64, 0) = Qf8 hd (Dc (Jk k0 (Xf 42#8) (bn (zF p X Y l.length l.length))) hd.Box) := by
  obtain ⟨p1, p2⟩ := h.pb
  have hP := h.ok.2.1.2
  have q2 := h.ok.2.1.1
  have q1 := hP.1
  refine Ce _ (fun j st => st = (bn (zF p X Y l.length j), (j : Int))) l.length _ (by omega) (by simp [zF]) ?_ ?_
  · rintro j _ hj rfl
    refine ⟨_, rfl, fun rec => ?_⟩
    have hz := Qvq p1 X Y l.length j
    have hin : Qr (Ak s l (bn (zF p X Y l.length j)) (j : Int) rec l[j]) Xb (1#64, 1#64, 0) = rec (bn (zF p X Y l.length (j + 1)), ((j + 1 : Nat) : Int)) := by
      refine Ce _ (fun k st => st = (fe (Tf X j k).1, fe (Tf X j k).2, (k : Int))) l.length _ (by omega) ?_ ?_ ?_
      · simp only [Tf]
        rw [show fe (1 : Fin q) = 1#64 from by unfold fe; rw [Qmi q1]]; rfl
      · rintro k _ hk rfl
        refine ⟨_, rfl, fun rec2 => ?_⟩
        simp only [Ak, Tf]
        rw [if_pos (by omega), Kd hk, bind_some, Wp (by omega)]
        by_cases e : k = j
        · rw [if_neg (by omega), if_neg (by simpa using e)]
        · rw [if_pos (by omega), if_pos e, h.grp, hX k hk, hX j hj]
          simp only
          rw [Qmk q1 q2, bind_some, Xbd q1 q2, bind_some, Qmk q1 q2, bind_some]
      · rintro _ rfl rec2
        simp only [Ak]
        have hne' : ∀ k, k < l.length → k ≠ j → X k - X j ≠ 0 := fun k hk he => hne k j hk hj he
        have hf := (Hp X j l.length).isLt
        obtain ⟨hy, hy2⟩ := hY j hj
        rw [if_neg (by omega), h.grp]
        simp only
        rw [Xb5 hP q2 (Qkl hP q2 X j l.length hne').1, bind_some, Xb3 hP q2 X j l.length hne', hy, Qtg h (by omega) (by omega), bind_some, Qn0 p1 p2 hz (Nat.mod_lt _ (by omega)), bind_some, Wp (by omega)]
        rfl
    simp only [Cr]
    rw [if_pos (by omega), Kd hj, bind_some]
    exact hin
  · rintro _ rfl rec
    simp only [Cr]
    rw [if_neg (by omega)]
    unfold Qj1
    rw [bind_some]
theorem Xfv (h : Tu s d t p q g) (hd : Zi) (n : Nat) (X : Nat → Fin q) (Y : Nat → Nat) (hn : n < 4611686018427387904) (hY : ∀ k, k < n → Y k < p) (hne : ∀ k j, k < n → j < n → k ≠ j → X k - X j ≠ 0) :
    Qr (Rq s hd ((List.range n).map fun k => fe (X k)) ((List.range n).map fun k => bn (Y k))) Xb (1#64, 0) = Qg6 hd (Dc (Jk k0 (Xf 42#8) (bn (zF p X Y n n))) hd.Box) := by
  obtain ⟨p1, p2⟩ := h.pb
  have hP := h.ok.2.1.2
  have q2 := h.ok.2.1.1
  have q1 := hP.1
  refine Ce _ (fun j st => st = (bn (zF p X Y n j), (j : Int))) n _ (by omega) (by simp [zF]) ?_ ?_
  · rintro j _ hj rfl
    refine ⟨_, rfl, fun rec => ?_⟩
    have hz := Qvq p1 X Y n j
    have hf := (Hp X j n).isLt
    have hy2 := hY j hj
    have hm := Nat.mod_lt (Y j ^ (Hp X j n).val) (show 0 < p by omega)
    have hp2 : zF p X Y n j * (Y j ^ (Hp X j n).val % p) ≤ 1048575 * 1048575 := Nat.mul_le_mul (by omega) (by omega)
    simp only [Rq]
    rw [if_pos (by simp; omega), Kd (by simpa using hj), bind_some, h.grp]
    simp only [List.getElem_map, List.getElem_range]
    rw [Xb4 hP q2 X n j hn hj (fun k hk he => hne k j hk hj he), bind_some, Qo6 (by omega) (by omega) (by omega) (by omega), bind_some, Dn, Yi (by omega) (by omega) (by omega), bind_some, Wp (by omega)]
    rfl
  · rintro _ rfl rec
    simp only [Rq]
    rw [if_neg (by simp)]
    unfold Qjh
    rw [bind_some, Cy.rdecr_eq, bind_some]
end
end Go.Sx.Po

end
section
set_option linter.unusedVariables false
set_option linter.unusedSimpArgs false
set_option linter.unusedSectionVars false
set_option maxRecDepth 100000
namespace Go.Sx.Po
open Go
theorem Oz (x : BitVec 64) : bn x.toNat = x := by simp [bn]
theorem Qsk {α β : Type} (l : List α) (f : α → β) (g : Nat → β) (h : ∀ k (hk : k < l.length), f l[k] = g k) : l.map f = (List.range l.length).map g := by
  apply List.ext_getElem
  · simp
  · intro i h1 h2
    simp only [List.getElem_map, List.getElem_range]
    exact h i (by simpa using h1)
def Jy (c : Qq) (h : Zi) (p : Nat) : List Qu := ⟨c.Share.X, bn (h.Base.toNat ^ c.Share.Y.toNat % p)⟩ :: h.Points
section
variable {s : Qs} {d t p q g : Nat}
theorem Xdp (hv : Tu s d t p q g) (e1 : Ri s = some true) (c : Qq) (h : Zi) (hl : h.Points.length * 16 ≤ 140737488351232) :
    Aj s c h = if Hg s h = true ∧ Tn s c = true then (if Th (Jy c h p) = true then Qr (Cr s h (Jy c h p)) Xb (1#64, 0) else some (k0, 6)) else some (k0, 8) := by
  obtain ⟨p1, p2⟩ := hv.pb
  unfold Aj
  rw [e1, bind_some, Xbb s c h hl (by rw [hv.grp]; exact (Wy (a := 1) (by omega) (by omega)).2 (by omega)), bind_some]
  simp only [Bool.not_true, cond_false]
  cases h1 : Hg s h with
  | false => simp
  | true =>
    cases h2 : Tn s c with
    | false => simp
    | true =>
      have hb := h.Base.isLt
      have hy := c.Share.Y.isLt
      have e := Qtg hv hb hy
      rw [Oz, Oz] at e
      simp only [Bool.and_self, Bool.not_true, cond_false]
      rw [e, bind_some, Vd (by simp; omega), bind_some, if_pos (by simp)]
      have e2 : [(⟨c.Share.X, bn (h.Base.toNat ^ c.Share.Y.toNat % p)⟩ : Qu)] ++ h.Points = Jy c h p := rfl
      rw [e2, Qpz _ (by simp [Jy]; omega), bind_some]
      cases Th (Jy c h p) <;> simp
theorem Xfw (hv : Tu s d t p q g) (e2 : Rr s = some true) (c : Qq) (h : Zi) (hl : h.Points.length * 16 ≤ 140737488351232) :
    Mg s c h = if Hg s h = true ∧ Tn s c = true then (if Th (Jy c h p) = true then Qr (Rq s h ((Jy c h p).map (·.X)) ((Jy c h p).map (·.Y))) Xb (1#64, 0) else some (k0, 6)) else some (k0, 8) := by
  obtain ⟨p1, p2⟩ := hv.pb
  unfold Mg Ik
  rw [e2, bind_some, Xhs s h (by omega), bind_some]
  simp only [Bool.not_true, cond_false]
  cases h1 : Hg s h with
  | false => simp
  | true =>
    simp only [Bool.not_true, cond_false, true_and]
    by_cases a1 : c.Share.X < 1#64
    · rw [if_pos a1]; have : ¬ 1#64 ≤ c.Share.X := by rw [BitVec.le_def]; rw [BitVec.lt_def] at a1; omega
      simp [Tn, this]
    · rw [if_neg a1]; have b1 : 1#64 ≤ c.Share.X := by rw [BitVec.le_def]; rw [BitVec.lt_def] at a1; omega
      by_cases a2 : s.Group.Q ≤ c.Share.X
      · rw [if_pos a2]; have : ¬ c.Share.X < s.Group.Q := by rw [BitVec.lt_def]; rw [BitVec.le_def] at a2; omega
        simp [Tn, this]
      · rw [if_neg a2]; have b2 : c.Share.X < s.Group.Q := by rw [BitVec.lt_def]; rw [BitVec.le_def] at a2; omega
        by_cases a3 : s.Group.Q ≤ c.Share.Y
        · rw [decide_eq_true a3]; have : ¬ c.Share.Y < s.Group.Q := by rw [BitVec.lt_def]; rw [BitVec.le_def] at a3; omega
          simp [Tn, this]
        · rw [decide_eq_false a3, cond_false]; have b3 : c.Share.Y < s.Group.Q := by rw [BitVec.lt_def]; rw [BitVec.le_def] at a3; omega
          have hs : Tn s c = true := by simp [Tn, b1, b2, b3]
          have hb := h.Base.isLt
          have hy := c.Share.Y.isLt
          have e := Qo6 hb hy (show 0 < p by omega) (show p < 4294967296 by omega)
          rw [Oz, Oz] at e
          rw [if_pos hs, hv.grp]
          simp only
          rw [e, bind_some]
          have := Qih h.Points.length (Il s c h) (fun j (_ : Unit) => (c.Share.X :: (h.Points.take j).map (·.X), bn (h.Base.toNat ^ c.Share.Y.toNat % p) :: (h.Points.take j).map (·.Y), (j : Int))) (fun j nx u => bif !decide ((h.Points.getD j default).X = c.Share.X) then nx u else some (k0, 6)) (fun _ => Qr (Rq s h ((Jy c h p).map (·.X)) ((Jy c h p).map (·.Y))) Xb (1#64, 0))
            (fun rec j hj _ => by
              have ee : h.Points.getD j default = h.Points[j] := by rw [List.getD_eq_getElem?_getD, List.getElem?_eq_getElem hj]; rfl
              simp only [Il]
              rw [if_pos (by omega), Kd hj, bind_some, ee]
              by_cases hx : h.Points[j].X = c.Share.X
              · rw [if_pos hx, decide_eq_true hx]; rfl
              · rw [if_neg hx, decide_eq_false hx, bind_some, Vd (by simp; omega), bind_some, bind_some, Vd (by simp; omega), bind_some, Wp (by omega), Gi _ j hj, List.map_append, List.map_append]; rfl)
            (fun rec _ => by
              simp only [Il]
              rw [if_neg (by omega), List.take_length]; rfl) (f := Xb) (Ki (by omega)) ()
          rw [show ((0 : Nat) : Int) = 0 from rfl] at this
          simp only [List.take_zero, List.map_nil] at this
          rw [this, Ul _ _ (some (k0, 6)) _ _ (fun a _ nx s => rfl), Qtm h.Points (fun x => !decide (x.X = c.Share.X)) default]
          have hd : Th h.Points = true := by
            simp only [Hg, Bool.and_eq_true] at h1; exact h1.1.2
          have e3 : Th (Jy c h p) = h.Points.all (fun x => !decide (x.X = c.Share.X)) := by
            rw [Bool.eq_iff_iff, List.all_eq_true]
            unfold Th Jy at *
            rw [decide_eq_true_eq] at hd ⊢
            rw [List.map_cons, List.nodup_cons]
            constructor
            · rintro ⟨n1, _⟩ x hx
              rw [Bool.not_eq_true', decide_eq_false_iff_not]
              intro he; exact n1 (List.mem_map.2 ⟨x, hx, he⟩)
            · intro n1
              refine ⟨fun hm => ?_, hd⟩
              obtain ⟨x, hx, he⟩ := List.mem_map.1 hm
              have := n1 x hx
              rw [Bool.not_eq_true', decide_eq_false_iff_not] at this
              exact this he
          rw [e3]
          cases h.Points.all (fun x => !decide (x.X = c.Share.X)) <;> rfl
def Xa (q : Nat) [NeZero q] (l : List Qu) (k : Nat) : Fin q := fi q (l.getD k default).X.toNat
def Ya (l : List Qu) (k : Nat) : Nat := (l.getD k default).Y.toNat
theorem Xe4 [NeZero q] (hv : Tu s d t p q g) (c : Qq) (h : Zi) (h1 : Hg s h = true) (h2 : Tn s c = true) (h3 : Th (Jy c h p) = true) :
    (∀ k (hk : k < (Jy c h p).length), (Jy c h p)[k].X = fe (Xa q (Jy c h p) k)) ∧ (∀ k (hk : k < (Jy c h p).length), (Jy c h p)[k].Y = bn (Ya (Jy c h p) k) ∧ Ya (Jy c h p) k < p) ∧
    (∀ k j, k < (Jy c h p).length → j < (Jy c h p).length → k ≠ j → Xa q (Jy c h p) k - Xa q (Jy c h p) j ≠ 0) := by
  obtain ⟨p1, p2⟩ := hv.pb
  obtain ⟨q1, q2⟩ := hv.qb
  have hall : ∀ x ∈ Jy c h p, x.X.toNat < q ∧ x.Y.toNat < p := by
    intro x hx
    rcases List.mem_cons.1 hx with rfl | hx
    · simp only [Tn, Bool.and_eq_true, decide_eq_true_eq, hv.grp] at h2
      have := h2.1.2
      rw [BitVec.lt_def, Yk (by omega)] at this
      have hm := Nat.mod_lt (h.Base.toNat ^ c.Share.Y.toNat) (show 0 < p by omega)
      exact ⟨this, by simp only; rw [Yk (by omega)]; exact hm⟩
    · simp only [Hg, Bool.and_eq_true] at h1
      have := List.all_eq_true.1 h1.2 x hx
      simp only [Vg, Bool.and_eq_true, decide_eq_true_eq, hv.grp, BitVec.lt_def] at this
      rw [Yk (by omega), Yk (by omega)] at this
      exact ⟨this.1.1.2, this.2⟩
  have gd : ∀ k (hk : k < (Jy c h p).length), (Jy c h p).getD k default = (Jy c h p)[k] := fun k hk => by rw [List.getD_eq_getElem?_getD, List.getElem?_eq_getElem hk]; rfl
  refine ⟨fun k hk => ?_, fun k hk => ?_, fun k j hk hj hkj => ?_⟩
  · unfold Xa; rw [gd k hk, Qmd (hall _ (List.getElem_mem hk)).1, Oz]
  · unfold Ya; rw [gd k hk, Oz]; exact ⟨rfl, (hall _ (List.getElem_mem hk)).2⟩
  · intro he
    have e1 : Xa q (Jy c h p) k = Xa q (Jy c h p) j := by grind
    unfold Xa at e1
    rw [gd k hk, gd j hj] at e1
    have e2 := Xb7 (hall _ (List.getElem_mem hk)).1 (hall _ (List.getElem_mem hj)).1 e1
    have e3 : (Jy c h p)[k].X = (Jy c h p)[j].X := BitVec.eq_of_toNat_eq e2
    unfold Th at h3
    rw [decide_eq_true_eq, List.Nodup, List.pairwise_iff_getElem] at h3
    rcases Nat.lt_or_gt_of_ne hkj with Jt | Jt
    · exact h3 k j (by simpa using hk) (by simpa using hj) Jt (by simpa using e3)
    · exact h3 j k (by simpa using hj) (by simpa using hk) Jt (by simpa using e3.symm)
theorem Xdo (s : Qs) (c : Qq) (h : Zi) (hl : h.Points.length * 16 ≤ 140737488351232) : ∃ r, Aj s c h = some r ∧ Mg s c h = some r := by
  rcases Mr s with ⟨e1, e2⟩ | ⟨e1, e2, d, t, p, q, g, hv⟩
  · refine ⟨(k0, 30), ?_, ?_⟩
    · unfold Aj; rw [e1, bind_some]; rfl
    · unfold Mg; rw [e2, bind_some]; rfl
  · obtain ⟨q1, q2⟩ := hv.qb
    haveI : NeZero q := ⟨by omega⟩
    rw [Xdp hv e1 c h hl, Xfw hv e2 c h hl]
    by_cases hb : Hg s h = true ∧ Tn s c = true
    · rw [if_pos hb, if_pos hb]
      by_cases hd : Th (Jy c h p) = true
      · rw [if_pos hd, if_pos hd]
        obtain ⟨f1, f2, f3⟩ := Xe4 hv c h hb.1 hb.2 hd
        have hlen : (Jy c h p).length < 4611686018427387904 := by simp [Jy]; omega
        rw [Qiy hv h (Jy c h p) (Xa q (Jy c h p)) (Ya (Jy c h p)) hlen f1 f2 f3, Qsk (Jy c h p) (·.X) (fun k => fe (Xa q (Jy c h p) k)) f1, Qsk (Jy c h p) (·.Y) (fun k => bn (Ya (Jy c h p) k)) (fun k hk => (f2 k hk).1),
          Xfv hv h _ (Xa q (Jy c h p)) (Ya (Jy c h p)) hlen (fun k hk => (f2 k hk).2) f3]
        unfold Qf8 Qg6
        split <;> exact ⟨_, rfl, rfl⟩
      · rw [if_neg hd, if_neg hd]; exact ⟨_, rfl, rfl⟩
    · rw [if_neg hb, if_neg hb]; exact ⟨_, rfl, rfl⟩
end
end Go.Sx.Po

end
section
set_option linter.unusedVariables false
set_option linter.unusedSimpArgs false
set_option maxRecDepth 100000
namespace Go.Sx.Ep
open Go Go.Sx
theorem Xdm (s : Qs) (c : Qq) (h : Zi) (hc : c.Labels.length < 4611686018427387904) (hcl : ∀ l ∈ c.Labels, Fa l) (hi : h.Items.length < 4611686018427387904) (hp : h.Points.length * 16 ≤ 140737488351232) : ∃ r, Qec s c h = some r ∧ Qgd s c h = some r := by
  obtain ⟨e, h1, h2, h3⟩ := Qiq s
  unfold Qgd
  rw [h2, bind_some]
  unfold Bs at h1
  unfold Qec
  have key : ∀ b, Ly s b = some e → ∃ r, Qar s c h b = some r ∧ (if e ≠ 0 then (some (k0, e)) else (if s.Kind = 4#8 then Option.bind (Mg s c h) fun x2 => ((some (x2.1, x2.2))) else Option.bind (Qc9 s c h) fun x3 => ((some (x3.1, x3.2))))) = some r := fun b hb => by
    unfold Ly at hb
    unfold Qar
    cases b with
    | true =>
      rw [cond_true] at hb ⊢
      have : e = 2 := (Option.some.inj hb).symm
      subst this
      exact ⟨_, rfl, if_pos (by decide)⟩
    | false =>
      rw [cond_false] at hb ⊢
      by_cases k1 : Xf s.Kind = 1 ∨ Xf s.Kind = 2 ∨ Xf s.Kind = 3
      · rw [if_pos k1] at hb ⊢
        have k4 : s.Kind ≠ 4#8 := fun h => by rw [h] at k1; revert k1; decide
        obtain ⟨c1, c2⟩ := Qdg s
        rw [c1, bind_some] at hb ⊢
        have he := Option.some.inj hb
        rw [he]
        by_cases h0 : e ≠ 0
        · rw [if_pos h0, if_pos h0]; exact ⟨_, rfl, rfl⟩
        · obtain ⟨q, q1, q2⟩ := Xdn s c hc hcl h hi
          rw [if_neg h0, if_neg h0, if_neg k4, q1, q2]; exact ⟨_, rfl, rfl⟩
      · rw [if_neg k1] at hb ⊢
        by_cases k4 : Xf s.Kind = 4
        · rw [if_pos k4] at hb ⊢
          have k4' : s.Kind = 4#8 := Qk3 (by rw [k4]; rfl)
          obtain ⟨r, c1, c2⟩ := Qn8 s
          rw [c1, bind_some] at hb ⊢
          have he := Option.some.inj hb
          rw [he]
          by_cases h0 : e ≠ 0
          · rw [if_pos h0, if_pos h0]; exact ⟨_, rfl, rfl⟩
          · obtain ⟨q, q1, q2⟩ := Po.Xdo s c h hp
            rw [if_neg h0, if_neg h0, if_pos k4', q1, q2]; exact ⟨_, rfl, rfl⟩
        · rw [if_neg k4] at hb; cases hb
  by_cases h0 : s.Kind < 1#8
  · rw [if_pos h0] at h1 ⊢; exact key _ h1
  · rw [if_neg h0] at h1 ⊢; exact key _ h1
end Go.Sx.Ep

end
section
set_option linter.unusedVariables false
set_option linter.unusedSimpArgs false
set_option maxRecDepth 100000
namespace Go.Sx
open Go Go.Sx.Ep
theorem Xg5 {a : Za} (h : VA a) : Rv a = some true := by
  obtain ⟨w1, w2, e1, e2, e3, y0, r0, d0, s1, s2⟩ := h
  unfold Rv
  rw [if_neg (by omega), if_neg (by omega), if_neg (by omega), Xu (n := 1000 * a.Word) (by omega) (by omega), if_neg (by omega)]
  unfold Kv
  rw [if_neg (show ¬ a.Word = 0 from by omega), bind_some, decide_eq_false (by omega)]
  unfold Sk
  rw [cond_false, if_neg (by omega), if_neg (by omega), if_neg (by omega), if_neg (by omega), if_neg (by omega), decide_eq_false (by omega)]
  unfold Li
  rw [cond_false, Xu (n := 2 * a.Drift) (by omega) (by omega), Xu (n := 2 * a.Drift + a.Delay) (by omega) (by omega), Xu (n := 3 * a.Word) (by omega) (by omega), Xu (n := a.Early + a.Delay) (by omega) (by omega), if_pos s1, decide_eq_true s2]
theorem Xe6 {a : Za} (ha : Jo a.Epoch ∧ Jo a.Word ∧ Jo a.Early ∧ Jo a.Drift ∧ Jo a.Delay) : Lw a = some 50 ∨ (Lw a = some 0 ∧ VA a) := by
  obtain ⟨i1, i2, i3, i4, i5⟩ := ha
  unfold Jo at *
  have hJ : Lx a true = some 50 := rfl
  have hK : Br true = some 50 := rfl
  unfold Lw
  by_cases h1 : a.Word < 1
  · rw [if_pos h1]; exact .inl hJ
  rw [if_neg h1]
  by_cases h2 : 1000 < a.Word
  · rw [if_pos h2]; exact .inl hJ
  rw [if_neg h2]
  by_cases h3 : a.Epoch < a.Word
  · rw [if_pos h3]; exact .inl hJ
  rw [if_neg h3, Xu (n := 1000 * a.Word) (by omega) (by omega)]
  by_cases h4 : 1000 * a.Word < a.Epoch
  · rw [if_pos h4]; exact .inl hJ
  rw [if_neg h4]
  unfold Kv
  rw [if_neg (show ¬ a.Word = 0 from by omega), bind_some]
  by_cases h5 : a.Epoch.tmod a.Word ≠ 0
  · rw [decide_eq_true h5]; exact .inl hJ
  rw [decide_eq_false h5]
  unfold Lx
  rw [cond_false]
  by_cases h6 : Hh (Hh a.Early a.Drift) a.Delay < 0
  · rw [if_pos h6]; exact .inl hK
  have h6' : 0 ≤ a.Early ∧ 0 ≤ a.Drift ∧ 0 ≤ a.Delay := by unfold Hh at h6; split at h6 <;> split at h6 <;> omega
  rw [if_neg h6, Xu (n := 3 * a.Word) (by omega) (by omega)]
  by_cases h7 : 3 * a.Word ≤ a.Drift
  · rw [if_pos h7]; exact .inl hK
  rw [if_neg h7]
  by_cases h8 : 3 * a.Word ≤ a.Delay
  · rw [if_pos h8]; exact .inl hK
  rw [if_neg h8, Xu (n := 2 * a.Drift) (by omega) (by omega), Xu (n := 2 * a.Drift + a.Delay) (by omega) (by omega)]
  by_cases h9 : 3 * a.Word ≤ 2 * a.Drift + a.Delay
  · rw [if_pos h9]; exact .inl hK
  rw [if_neg h9, Xu (n := a.Epoch - a.Delay) (by omega) (by omega)]
  by_cases h10 : a.Epoch - a.Delay < a.Early
  · rw [decide_eq_true h10]; exact .inl hK
  rw [decide_eq_false h10]
  exact .inr ⟨rfl, by omega, by omega, by omega, by omega, by omega, by omega, by omega, by omega, by omega, by omega⟩
theorem Qvu {a : Za} (ha : Jo a.Epoch ∧ Jo a.Word ∧ Jo a.Early ∧ Jo a.Drift ∧ Jo a.Delay) : (Lw a = some 50 ∧ Rv a = some false) ∨ (Lw a = some 0 ∧ Rv a = some true ∧ VA a) := by
  rcases Xe6 ha with h | ⟨h, hv⟩
  · refine .inl ⟨h, ?_⟩
    obtain ⟨b, e, i⟩ := Xhq a
    cases b with
    | false => exact e
    | true => have := Qwk (i rfl); rw [h] at this; simp at this
  · exact .inr ⟨h, Xg5 hv, hv⟩
theorem Qoe (t : Int) : Fj t = some (decide (0 ≤ t ∧ t ≤ 1099511627776)) ∧ Ru t = some (decide (0 ≤ t ∧ t ≤ 1099511627776)) := by
  unfold Fj Ru
  by_cases h : 0 ≤ t
  · rw [if_pos h]; constructor <;> (congr 1; rw [decide_eq_decide]; exact ⟨fun x => ⟨h, x⟩, fun x => x.2⟩)
  · rw [if_neg h, decide_eq_false fun x => h x.1]; exact ⟨rfl, rfl⟩
theorem Qp4 {p : Ze} (h1 : p.Head.Items.length ≤ 64) (h2 : p.Head.Points.length ≤ 8) (h3 : p.Data.length ≤ 1000) : (Lq p).length ≤ 16384 := by
  unfold Lq
  split
  · simp only [List.length_append, Vs, List.length_cons, List.length_nil]; omega
  · simp only [List.length_append, Vs, List.length_cons, List.length_nil, Kj, Ev Ta 18 Qmm, Ev Vg 16 Qnf]; omega
theorem Xbj (ses : W2) (p : Ze) (h1 : p.Head.Items.length ≤ 64) (h2 : p.Head.Points.length ≤ 8) (h3 : p.Data.length ≤ 1000) : Qeg ses p = some (Ac (Jk ses (Xf 52#8) (wd p.Epoch)) (Lq p)) ∧ Qgh ses p = some (Ac (Jk ses (Xf 52#8) (wd p.Epoch)) (Lq p)) := by
  have hs : Sm p := ⟨by omega, by omega, by omega⟩
  have hb := Qp4 h1 h2 h3
  unfold Qeg Qgh
  rw [Qp9 p hs, Qto p hs, bind_some, bind_some, Qsi _ _ hb, Qv2 _ _ (by omega), bind_some, bind_some]
  exact ⟨rfl, rfl⟩
end Go.Sx

end
section
set_option linter.unusedVariables false
set_option linter.unusedSimpArgs false
set_option maxRecDepth 100000
namespace Go.Sx
open Go Go.Sx.Ep
theorem Qso (a b : Int) : Di a b = max a b := by unfold Di; split <;> omega
theorem Xds {a : Za} (V : VA a) {l : Int} (h0 : -1099511627776 ≤ l) (h1 : l ≤ 2199023255552) {low : BitVec 8} (hlow : low < 4#8) :
    ∃ c b, Qei a l low = some (c, b) ∧ Qgf a l low = some (if b = true then c else -1) ∧ (b = true → 0 ≤ c ∧ 0 ≤ c * a.Word ∧ c * a.Word ≤ 2199023258552) := by
  obtain ⟨w1, w2, e1, e2, e3, y0, r0, d0, s1, s2⟩ := id V
  have hW : 0 < a.Word := by omega
  unfold Qei Qgf
  rw [Quv V h0 h1, bind_some, Qso, Xu (n := l - a.Drift) (by omega) (by omega), Xu (n := l - a.Drift - a.Delay) (by omega) (by omega)]
  simp only
  obtain ⟨F, hF⟩ : ∃ F, F = max (l - a.Drift - a.Delay) 0 := ⟨_, rfl⟩
  rw [← hF]
  have hf0 : 0 ≤ F := by omega
  have hfb : F ≤ 2199023255552 := by omega
  have hgap : l + a.Drift - F ≤ 3000 := by omega
  have hL : Qi (l + a.Drift) = l + a.Drift := Xu (by omega) (by omega)
  have hq : ∀ t, 0 ≤ t → t ≤ 4000000000000 → Yy t a.Word = some (t / a.Word) := fun t x y => Qfi x (by omega) hW
  have hr : ∀ t, 0 ≤ t → Kv t 4 = some (t % 4) := fun t x => Xfn x (by decide)
  have hk : Xf low = (low.toNat : Int) ∧ low.toNat < 4 := ⟨rfl, by rw [BitVec.lt_def] at hlow; simpa using hlow⟩
  by_cases hneg : l + a.Drift < 0
  · rw [if_pos hneg]
    refine ⟨0, false, rfl, ?_, nofun⟩
    rw [Qvr, Zt]
    unfold Rt
    rw [hL, if_neg (by omega)]; rfl
  rw [if_neg hneg, hq F hf0 (by omega), bind_some]
  have q0 : 0 ≤ F / a.Word := Int.ediv_nonneg hf0 (by omega)
  have qF : F / a.Word * a.Word ≤ F := Int.ediv_mul_le _ (by omega)
  have qF2 : F < (F / a.Word + 1) * a.Word := Int.lt_ediv_add_one_mul_self _ hW
  have qle : F / a.Word ≤ F := Int.ediv_le_self a.Word hf0
  obtain ⟨Q, hQ⟩ : ∃ Q, Q = F / a.Word := ⟨_, rfl⟩
  rw [← hQ] at q0 qF qF2 qle ⊢
  rw [hr Q q0, bind_some, hk.1, Xu (n := (low.toNat : Int) - Q % 4) (by omega) (by omega), Xu (n := (low.toNat : Int) - Q % 4 + 4) (by omega) (by omega), hr _ (by omega), bind_some, hq (l + a.Drift) (by omega) (by omega), bind_some]
  obtain ⟨C, hC⟩ : ∃ C, C = Q + ((low.toNat : Int) - Q % 4 + 4) % 4 := ⟨_, rfl⟩
  rw [← hC, Xu (n := C) (by omega) (by omega)]
  have c0 : 0 ≤ C := by omega
  have cq : C % 4 = (low.toNat : Int) := by omega
  have Ch : ∀ q, Q ≤ q → q < C → q % 4 ≠ (low.toNat : Int) := fun q x y => by omega
  refine ⟨C, decide (C ≤ (l + a.Drift) / a.Word), rfl, ?_, fun hb => ?_⟩
  · -- the loop
    obtain ⟨H, hH⟩ : ∃ H, H = max F (C * a.Word) := ⟨_, rfl⟩
    have hfar : C ≤ (l + a.Drift) / a.Word ↔ C * a.Word ≤ l + a.Drift := Int.le_ediv_iff_mul_le hW
    have hdiv : ∀ t, F ≤ t → t < H → (t / a.Word) % 4 ≠ (low.toNat : Int) := fun t x y => by
      have hCW : t < C * a.Word := by omega
      have u1 : t / a.Word < C := Int.ediv_lt_of_lt_mul hW hCW
      have u2 : Q ≤ t / a.Word := by rw [hQ]; exact Int.ediv_le_ediv hW x
      exact Ch _ u2 u1
    have hstep : ∀ rec (t : Int), 0 ≤ t → t ≤ l + a.Drift → (t / a.Word) % 4 ≠ (low.toNat : Int) → Rt a l low rec t = rec (t + 1) := fun rec t x y z => by
      unfold Rt
      rw [hL, if_pos y, hq t x (by omega), bind_some, hr _ (Int.ediv_nonneg x (by omega)), bind_some, hk.1, if_neg z, Xu (by omega) (by omega)]
    by_cases hhit : C * a.Word ≤ l + a.Drift
    · have hHl : H ≤ l + a.Drift := by omega
      refine Dz _ (fun j t => t = F + (j : Int)) (H - F).toNat _ (by omega) (by simp) ?_ ?_
      · rintro j t hj rfl
        exact ⟨F + ((j + 1 : Nat) : Int), rfl, fun rec => (hstep rec _ (by omega) (by omega) (hdiv _ (by omega) (by omega))).trans (by congr 1; omega)⟩
      · rintro t rfl rec
        have ht : F + ((H - F).toNat : Int) = H := by omega
        rw [ht]
        have hHd : H / a.Word = C := by
          have u1 : C ≤ H / a.Word := (Int.le_ediv_iff_mul_le hW).2 (by omega)
          have u2 : H < (C + 1) * a.Word := by
            have m1 : (C + 1) * a.Word = C * a.Word + a.Word := by rw [Int.add_mul, Int.one_mul]
            have m2 : (Q + 1) * a.Word ≤ (C + 1) * a.Word := Int.mul_le_mul_of_nonneg_right (by omega) (by omega)
            omega
          have u3 : H / a.Word < C + 1 := Int.ediv_lt_of_lt_mul hW u2
          omega
        unfold Rt
        rw [hL, if_pos hHl, hq H (by omega) (by omega), bind_some, hHd, hr C c0, bind_some, hk.1, if_pos cq, bind_some, if_pos (decide_eq_true (hfar.2 hhit))]
    · rw [if_neg (fun hx => hhit (hfar.1 (of_decide_eq_true hx)))]
      refine Dz _ (fun j t => t = F + (j : Int)) (l + a.Drift + 1 - F).toNat _ (by omega) (by simp) ?_ ?_
      · rintro j t hj rfl
        exact ⟨F + ((j + 1 : Nat) : Int), rfl, fun rec => (hstep rec _ (by omega) (by omega) (hdiv _ (by omega) (by omega))).trans (by congr 1; omega)⟩
      · rintro t rfl rec
        unfold Rt
        rw [hL, if_neg (by omega)]
  · have hx := (Int.le_ediv_iff_mul_le hW).1 (of_decide_eq_true hb)
    exact ⟨c0, Int.mul_nonneg c0 (by omega), by omega⟩
theorem Xhb {a : Za} (V : VA a) {l : Int} (h0 : -1099511627776 ≤ l) (h1 : l ≤ 2199023255552) {e : Int} (h2 : 0 ≤ e) (h3 : e ≤ 1099511627776) : ∃ b, Qek a l e = some b ∧ Qgk a l e = some b := by
  obtain ⟨w1, w2, e1, e2, e3, y0, r0, d0, s1, s2⟩ := id V
  have hE : 0 < a.Epoch := by omega
  have m0 : 0 ≤ e * a.Epoch := Int.mul_nonneg h2 (by omega)
  have m1 : e * a.Epoch ≤ 1099511627776 * 1000000 := Int.mul_le_mul h3 (by omega) (by omega) (by omega)
  have m2 : (e + 1) * a.Epoch = e * a.Epoch + a.Epoch := by rw [Int.add_mul, Int.one_mul]
  unfold Qek Qgk
  rw [Quv V h0 h1, bind_some, Qso, Xu (n := l - a.Drift) (by omega) (by omega), Xu (n := l - a.Drift - a.Delay) (by omega) (by omega), Xu (n := l + a.Drift) (by omega) (by omega), Xu (n := e + 1) (by omega) (by omega), Xu (n := (e + 1) * a.Epoch) (by omega) (by omega), Xu (n := (e + 1) * a.Epoch - 1) (by omega) (by omega), Xu (n := e * a.Epoch) (by omega) (by omega), Xu (n := e * a.Epoch - a.Early) (by omega) (by omega)]
  simp only
  obtain ⟨F, hF⟩ : ∃ F, F = max (l - a.Drift - a.Delay) 0 := ⟨_, rfl⟩
  rw [← hF]
  by_cases k1 : 0 ≤ l + a.Drift
  · rw [if_pos k1, if_pos (show F ≤ l + a.Drift by omega), Qfi (by omega) (by omega) hE, bind_some]
    have key : F / a.Epoch ≤ e ↔ F ≤ (e + 1) * a.Epoch - 1 := by
      constructor
      · intro h
        have := Int.lt_ediv_add_one_mul_self F hE
        have : (F / a.Epoch + 1) * a.Epoch ≤ (e + 1) * a.Epoch := Int.mul_le_mul_of_nonneg_right (by omega) (by omega)
        omega
      · intro h
        have : F / a.Epoch < e + 1 := Int.ediv_lt_of_lt_mul hE (by omega)
        omega
    by_cases k2 : F / a.Epoch ≤ e
    · rw [if_pos k2, if_pos (key.1 k2)]; exact ⟨_, rfl, rfl⟩
    · rw [if_neg k2, if_neg fun h => k2 (key.2 h)]; exact ⟨_, rfl, rfl⟩
  · rw [if_neg k1, if_neg (show ¬ F ≤ l + a.Drift by omega)]; exact ⟨_, rfl, rfl⟩
end Go.Sx

end
