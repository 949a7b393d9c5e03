/- Packets and their bytes, plainly: which packets are valid, and what both sides write. -/
import Derived.Test.YtjdffpglgkefmaaErM
import Derived.Test.YtjdffpglgkefmaaPl
import Derived.Test.YtjdffpglgkefmaaFx
import Derived.Test.YtjdffpglgkefmaaFy
set_option linter.unusedVariables false
set_option linter.unusedSimpArgs false
set_option maxRecDepth 100000
namespace Go.Sx.Ep
open Go Go.Sx

theorem goE {τ R : Type} (F : (τ → Option R) → τ → Option R) (I : Nat → τ → Prop) (n : Nat) (r : Option R) (hn : n < 9223372036854775808) {s : τ} (h0 : I 0 s) (hs : ∀ j s, j < n → I j s → ∃ s', I (j + 1) s' ∧ ∀ rec, F rec s = rec s') (he : ∀ s, I n s → ∀ rec, F rec s = r) : fixN F FUEL s = r :=
  fix_run F I n r hs he n 0 FUEL s (by omega) (fuel_lt hn) h0
/-! ### numbers as bytes -/
/-- a number in k bytes -/
def be (x : BitVec 64) : Nat → List (BitVec 8)
  | 0 => []
  | k + 1 => ((x >>> (8 * k)).setWidth 8) :: be x k
theorem be_len (x : BitVec 64) : ∀ k, (be x k).length = k
  | 0 => rfl
  | k + 1 => by simp [be, be_len x k]
theorem put_loop (x : BitVec 64) : ∀ (k fuel : Nat) (out : List (BitVec 8)), k < fuel → k ≤ 1000 → out.length + k ≤ 1000000 → fixN (epoch_writer_put_L1 x) fuel ((k : Int) - 1, out) = some ⟨out ++ be x k⟩
  | k, 0, _, hf, _, _ => by omega
  | 0, fuel + 1, out, _, _, _ => by
    rw [fix_step]; simp only [epoch_writer_put_L1]; rw [if_neg (by omega)]; simp [be]
  | k + 1, fuel + 1, out, hf, hk, hl => by
    rw [fix_step]; simp only [epoch_writer_put_L1]
    have e1 : shG (w64 (8 * (((k + 1 : Nat) : Int) - 1))) = some (8 * k) := by
      rw [w64_id (by omega) (by omega)]; unfold shG; rw [if_pos (by omega)]; congr 1; omega
    rw [if_pos (by omega), e1, bind_some, appG_some (by simp; omega), bind_some, w64_id (by omega) (by omega)]
    have e2 : ((k + 1 : Nat) : Int) - 1 - 1 = (k : Int) - 1 := by omega
    rw [e2, put_loop x k fuel _ (by omega) (by omega) (by simp; omega)]
    simp [be]
theorem put_eq (w : Tepoch_writer) (x : BitVec 64) (k : Nat) {kk : Int} (hkk : kk = (k : Int)) (hk : k ≤ 1000) (hl : w.out.length + k ≤ 1000000) : epoch_writer_put w x kk = some ⟨w.out ++ be x k⟩ := by
  subst hkk; unfold epoch_writer_put
  rw [w64_id (by omega) (by omega)]
  exact put_loop x k FUEL _ (fuel_lt (by omega)) hk hl
theorem num_loop (x : BitVec 64) : ∀ (k fuel : Nat) (out : List (BitVec 8)), k < fuel → k ≤ 1000 → out.length + k ≤ 1000000 → fixN (ref05_number_L1 x) fuel (out, (k : Int) - 1) = some (out ++ be x k)
  | k, 0, _, hf, _, _ => by omega
  | 0, fuel + 1, out, _, _, _ => by
    rw [fix_step]; simp only [ref05_number_L1]; rw [if_neg (by omega)]; simp [be]
  | k + 1, fuel + 1, out, hf, hk, hl => by
    rw [fix_step]; simp only [ref05_number_L1]
    have e1 : shG (un (wd (w64 (8 * (((k + 1 : Nat) : Int) - 1))))) = some (8 * k) := by
      rw [w64_id (by omega) (by omega), un_wd _ (by omega) (by omega)]; unfold shG; rw [if_pos (by omega)]; congr 1; omega
    rw [if_pos (by omega), e1, bind_some, appG_some (by simp; omega), bind_some, w64_id (by omega) (by omega)]
    have e2 : ((k + 1 : Nat) : Int) - 1 - 1 = (k : Int) - 1 := by omega
    rw [e2, num_loop x k fuel _ (by omega) (by omega) (by simp; omega)]
    simp [be]
theorem num_eq (l : List (BitVec 8)) (x : BitVec 64) (k : Nat) {kk : Int} (hkk : kk = (k : Int)) (hk : k ≤ 1000) (hl : l.length + k ≤ 1000000) : ref05_number l x kk = some (l ++ be x k) := by
  subst hkk; unfold ref05_number
  rw [w64_id (by omega) (by omega)]
  exact num_loop x k FUEL _ (fuel_lt (by omega)) hk hl
theorem be1 (x : BitVec 64) : be x 1 = [x.setWidth 8] := by simp [be]
theorem be1_8 (x : BitVec 8) : be (x.setWidth 64) 1 = [x] := by
  rw [be1]; congr 1
  apply BitVec.eq_of_toNat_eq
  rw [BitVec.toNat_setWidth, BitVec.toNat_setWidth]; have := x.isLt; omega
theorem be1_wd (n : Int) : be (wd n) 1 = [wd8 n] := by
  rw [be1]; congr 1
  apply BitVec.eq_of_toNat_eq
  unfold wd wd8
  rw [BitVec.toNat_setWidth, BitVec.toNat_ofInt, BitVec.toNat_ofInt]; omega
/-! ### which packets are valid -/
def OkI (x : TItem) : Prop := (0 ≤ x.Subset.Node ∧ x.Subset.Node ≤ 127) ∧ 0 ≤ x.Subset.Minus ∧ x.Subset.Minus ≤ 127
instance (x : TItem) : Decidable (OkI x) := by unfold OkI; infer_instance
def Blank (h : THeader) : Prop := h.Items = [] ∧ h.Points = [] ∧ h.Base = 0#64 ∧ h.Box = k0 ∧ h.Check = k0
instance (h : THeader) : Decidable (Blank h) := by unfold Blank; infer_instance
def VHead (p : TPacket) : Prop := (0 ≤ p.Epoch ∧ p.Epoch ≤ 1099511627776) ∧ p.Low = 0#8 ∧ p.Number = 0#64 ∧ p.Data = [] ∧ p.Head.Items.length ≤ 64 ∧ p.Head.Points.length ≤ 8 ∧ ∀ x ∈ p.Head.Items, OkI x
instance (p : TPacket) : Decidable (VHead p) := by unfold VHead; infer_instance
def VCont (p : TPacket) : Prop := p.Epoch = 0 ∧ p.Low < 4#8 ∧ p.Data.length ≤ 256 ∧ Blank p.Head
instance (p : TPacket) : Decidable (VCont p) := by unfold VCont; infer_instance
def VP (p : TPacket) : Prop := (p.Kind = 1#8 ∧ VHead p) ∨ (p.Kind = 2#8 ∧ VCont p)
instance (p : TPacket) : Decidable (VP p) := by unfold VP; infer_instance
theorem ixf (l : List TItem) (hl : l.length < 4611686018427387904) : ∀ (m i fuel : Nat), l.length - i = m → i ≤ l.length → m < fuel → ∃ r, fixN (slices_IndexFunc_c205_epoch_CheckPacket_1_L1 l) fuel (i : Int) = some r ∧ (0 ≤ r ↔ ¬ ∀ x ∈ l.drop i, OkI x)
  | m, i, 0, _, _, hf => by omega
  | 0, i, fuel + 1, hm, hi, hf => by
    rw [fix_step]; simp only [slices_IndexFunc_c205_epoch_CheckPacket_1_L1]
    rw [if_neg (by omega), List.drop_eq_nil_of_le (by omega)]
    exact ⟨_, rfl, by simp⟩
  | m + 1, i, fuel + 1, hm, hi, hf => by
    have hil : i < l.length := by omega
    rw [fix_step]; simp only [slices_IndexFunc_c205_epoch_CheckPacket_1_L1]
    have e : epoch_CheckPacket_1 l[i] = some (decide (¬ OkI l[i])) := by
      have h1 : mnI l[i].Subset.Node l[i].Subset.Minus < 0 ↔ (l[i].Subset.Node < 0 ∨ l[i].Subset.Minus < 0) := by unfold mnI; split <;> omega
      have h2 : 127 < mxI l[i].Subset.Node l[i].Subset.Minus ↔ (127 < l[i].Subset.Node ∨ 127 < l[i].Subset.Minus) := by unfold mxI; split <;> omega
      unfold epoch_CheckPacket_1
      by_cases c : mnI l[i].Subset.Node l[i].Subset.Minus < 0
      · rw [if_pos c, decide_eq_true]; rw [h1] at c; unfold OkI; omega
      · rw [if_neg c]; rw [h1] at c; congr 1; apply Bool.eq_iff_iff.2; rw [decide_eq_true_iff, decide_eq_true_iff, h2]; unfold OkI; omega
    have hd : (∀ x ∈ l.drop i, OkI x) ↔ OkI l[i] ∧ ∀ x ∈ l.drop (i + 1), OkI x := by rw [List.drop_eq_getElem_cons hil, List.forall_mem_cons]
    rw [if_pos (by omega), getI_some hil, bind_some, e, bind_some, hd]
    by_cases ho : OkI l[i]
    · rw [decide_eq_false (fun h => h ho), cond_false, w64_nat (by omega)]
      obtain ⟨r, h1, h2⟩ := ixf l hl m (i + 1) fuel (by omega) (by omega) (by omega)
      exact ⟨r, h1, by rw [h2]; exact ⟨fun h h' => h h'.2, fun h h' => h ⟨ho, h'⟩⟩⟩
    · rw [decide_eq_true ho, cond_true]
      exact ⟨_, rfl, ⟨fun _ h => ho h.1, fun _ => by omega⟩⟩
theorem has_eq (l : List TItem) (hl : l.length < 4611686018427387904) : slices_ContainsFunc_9968_epoch_CheckPacket_1 l = some (!decide (∀ x ∈ l, OkI x)) := by
  unfold slices_ContainsFunc_9968_epoch_CheckPacket_1 slices_IndexFunc_c205_epoch_CheckPacket_1
  obtain ⟨r, h1, h2⟩ := ixf l hl _ 0 FUEL rfl (by omega) (fuel_lt (by omega))
  rw [show (0 : Int) = ((0 : Nat) : Int) from rfl, h1, bind_some]
  congr 1
  have h3 : ((0 : Nat) : Int) ≤ r ↔ ¬ ∀ x ∈ l, OkI x := by rw [List.drop_zero] at h2; exact h2
  by_cases h : ∀ x ∈ l, OkI x
  · rw [decide_eq_true h, decide_eq_false (fun h4 => h3.1 h4 h)]; rfl
  · rw [decide_eq_false h, decide_eq_true (h3.2 h)]; rfl
theorem len0 {α : Type} (l : List α) : ((l.length : Int) = 0) ↔ l = [] := by
  cases l with
  | nil => simp
  | cons a l => simp; omega
theorem chk_eq (p : TPacket) (hl : p.Head.Items.length < 4611686018427387904) : epoch_CheckPacket p = some (if VP p then 0 else 8) := by
  have h1 : epoch_CheckPacket p = epoch_CheckPacket_J1 p (decide (Blank p.Head)) := by
    unfold epoch_CheckPacket Blank
    simp only [len0]
    repeat' split
    all_goals simp [*]
  have h2 : ∀ b : Bool, epoch_CheckPacket_J2 b = some (if b = true then 0 else 8) := fun b => by cases b <;> rfl
  rw [h1]
  unfold epoch_CheckPacket_J1
  simp only [h2]
  by_cases hk : p.Kind = 1#8
  · rw [if_pos hk]
    have e : epoch_isTick p.Epoch = some (decide (0 ≤ p.Epoch ∧ p.Epoch ≤ 1099511627776)) := by
      unfold epoch_isTick; split <;> simp [*]
    rw [e, bind_some, has_eq _ hl]
    have hv : VP p ↔ VHead p := by unfold VP; rw [hk]; simp
    simp only [hv, VHead, bind_some, len0]
    by_cases c1 : (0 ≤ p.Epoch ∧ p.Epoch ≤ 1099511627776)
    · rw [decide_eq_true c1, cond_true]
      by_cases c2 : p.Low = 0#8
      · by_cases c3 : p.Number = 0#64
        · by_cases c4 : p.Data = []
          · by_cases c5 : p.Head.Items.length ≤ 64
            · by_cases c6 : p.Head.Points.length ≤ 8
              · rw [if_pos c2, if_pos c3, if_pos c4, if_pos (by omega), if_pos (by omega)]
                by_cases c7 : ∀ x ∈ p.Head.Items, OkI x
                · rw [decide_eq_true c7, if_pos (by rfl), if_pos ⟨c1, c2, c3, c4, c5, c6, c7⟩]
                · rw [decide_eq_false c7, if_neg (by simp), if_neg (fun h => c7 h.2.2.2.2.2.2)]
              · rw [if_pos c2, if_pos c3, if_pos c4, if_pos (by omega), if_neg (by omega), if_neg (by simp), if_neg (fun h => c6 h.2.2.2.2.2.1)]
            · rw [if_pos c2, if_pos c3, if_pos c4, if_neg (by omega), if_neg (by simp), if_neg (fun h => c5 h.2.2.2.2.1)]
          · rw [if_pos c2, if_pos c3, if_neg c4, if_neg (by simp), if_neg (fun h => c4 h.2.2.2.1)]
        · rw [if_pos c2, if_neg c3, if_neg (by simp), if_neg (fun h => c3 h.2.2.1)]
      · rw [if_neg c2, if_neg (by simp), if_neg (fun h => c2 h.2.1)]
    · rw [decide_eq_false c1, cond_false, if_neg (by simp), if_neg (fun h => c1 h.1)]
  · rw [if_neg hk]
    by_cases hk2 : p.Kind = 2#8
    · rw [if_pos hk2]
      have hv : VP p ↔ VCont p := by unfold VP; rw [hk2]; simp
      simp only [hv, VCont]
      by_cases c1 : p.Epoch = 0
      · by_cases c2 : p.Low < 4#8
        · by_cases c3 : p.Data.length ≤ 256
          · rw [if_pos c1, if_pos c2, if_pos (by omega)]
            by_cases c4 : Blank p.Head
            · rw [decide_eq_true c4, if_pos rfl, if_pos ⟨c1, c2, c3, c4⟩]
            · rw [decide_eq_false c4, if_neg (by simp), if_neg (fun h => c4 h.2.2.2)]
          · rw [if_pos c1, if_pos c2, if_neg (by omega), if_neg (by simp), if_neg (fun h => c3 h.2.2.1)]
        · rw [if_pos c1, if_neg c2, if_neg (by simp), if_neg (fun h => c2 h.2.1)]
      · rw [if_neg c1, if_neg (by simp), if_neg (fun h => c1 h.1)]
    · rw [if_neg hk2, if_neg (by simp), if_neg]
      rintro (h | h)
      · exact hk h.1
      · exact hk2 h.1
theorem rix (p : TPacket) (hl : p.Head.Items.length < 4611686018427387904) : ∀ (m i fuel : Nat), p.Head.Items.length - i = m → i ≤ p.Head.Items.length → m < fuel → fixN (ref05_ValidPacket_L2 p) fuel (i : Int) = some (decide (∀ x ∈ p.Head.Items.drop i, OkI x))
  | m, i, 0, _, _, hf => by omega
  | 0, i, fuel + 1, hm, hi, hf => by
    rw [fix_step]; simp only [ref05_ValidPacket_L2]
    rw [if_neg (by omega), List.drop_eq_nil_of_le (by omega)]; simp
  | m + 1, i, fuel + 1, hm, hi, hf => by
    have hil : i < p.Head.Items.length := by omega
    rw [fix_step]; simp only [ref05_ValidPacket_L2]
    have hd : (∀ x ∈ p.Head.Items.drop i, OkI x) ↔ OkI p.Head.Items[i] ∧ ∀ x ∈ p.Head.Items.drop (i + 1), OkI x := by rw [List.drop_eq_getElem_cons hil, List.forall_mem_cons]
    rw [if_pos (by omega), getI_some hil, bind_some]
    simp only [hd]
    have e : ∀ rec : Int → Option Bool, (if p.Head.Items[i].Subset.Node < 0 then ref05_ValidPacket_J3 (i : Int) rec true else if (127 : Int) < p.Head.Items[i].Subset.Node then ref05_ValidPacket_J3 (i : Int) rec true else if p.Head.Items[i].Subset.Minus < 0 then ref05_ValidPacket_J3 (i : Int) rec true else ref05_ValidPacket_J3 (i : Int) rec (decide ((127 : Int) < p.Head.Items[i].Subset.Minus))) = ref05_ValidPacket_J3 (i : Int) rec (decide (¬ OkI p.Head.Items[i])) := fun rec => by
      unfold OkI
      repeat' split
      all_goals congr 1
      all_goals first | (symm; apply decide_eq_true; omega) | (apply Bool.eq_iff_iff.2; rw [decide_eq_true_iff, decide_eq_true_iff]; omega)
    rw [e]
    unfold ref05_ValidPacket_J3
    by_cases ho : OkI p.Head.Items[i]
    · rw [decide_eq_false (by simp [ho]), cond_false, w64_nat (by omega), rix p hl m (i + 1) fuel (by omega) (by omega) (by omega)]
      congr 1; apply Bool.eq_iff_iff.2; rw [decide_eq_true_iff, decide_eq_true_iff]; exact ⟨fun h => ⟨ho, h⟩, fun h => h.2⟩
    · rw [decide_eq_true (by simp [ho]), cond_true, decide_eq_false (fun h => ho h.1)]
theorem rchk_eq (p : TPacket) (hl : p.Head.Items.length < 4611686018427387904) : ref05_ValidPacket p = some (decide (VP p)) := by
  have hb : ref05_blank p.Head = some (decide (Blank p.Head)) := by
    unfold ref05_blank Blank
    simp only [len0]
    repeat' split
    all_goals simp [*]
  have hj : ∀ b, ref05_ValidPacket_J1 p b = some (!b && decide (∀ x ∈ p.Head.Items, OkI x)) := fun b => by
    unfold ref05_ValidPacket_J1
    cases b with
    | true => rfl
    | false =>
      have := rix p hl _ 0 FUEL rfl (by omega) (fuel_lt (by omega))
      rw [cond_false, show (0 : Int) = ((0 : Nat) : Int) from rfl, this]; simp
  unfold ref05_ValidPacket
  simp only [hj, hb, bind_some]
  by_cases hk2 : p.Kind = 2#8
  · have hv : VP p ↔ VCont p := by unfold VP; rw [hk2]; simp
    have h3 : p.Low ≤ 3#8 ↔ p.Low < 4#8 := by rw [BitVec.le_def, BitVec.lt_def]; show p.Low.toNat ≤ 3 ↔ p.Low.toNat < 4; omega
    rw [if_pos hk2]
    simp only [hv, VCont, h3]
    by_cases c2 : p.Low < 4#8
    · by_cases c3 : p.Data.length ≤ 256
      · by_cases c1 : p.Epoch = 0
        · rw [if_pos c2, if_pos (by omega), if_pos c1]; simp [c1, c2, c3]
        · rw [if_pos c2, if_pos (by omega), if_neg c1]; simp [c1]
      · rw [if_pos c2, if_neg (by omega)]; simp [c3]
    · rw [if_neg c2]; simp [c2]
  · rw [if_neg hk2]
    by_cases hk : p.Kind = 1#8
    · have hv : VP p ↔ VHead p := by unfold VP; rw [hk]; simp
      rw [if_neg (by simp [hk])]
      have e : ref05_Tick p.Epoch = some (decide (0 ≤ p.Epoch ∧ p.Epoch ≤ 1099511627776)) := by
        unfold ref05_Tick; split <;> simp [*]
      rw [e, bind_some]
      simp only [hv, VHead]
      by_cases c1 : (0 ≤ p.Epoch ∧ p.Epoch ≤ 1099511627776)
      · rw [decide_eq_true c1]
        have hz : ∀ l : List (BitVec 8), (0 : Int) < (l.length : Int) ↔ l ≠ [] := fun l => by rw [ne_eq, ← len0]; omega
        simp only [hz]
        by_cases c2 : p.Low = 0#8
        · by_cases c3 : p.Number = 0#64
          · by_cases c4 : p.Data = []
            · by_cases c5 : p.Head.Items.length ≤ 64
              · have c5' : ¬ (64 : Int) < (p.Head.Items.length : Int) := by omega
                by_cases c6 : p.Head.Points.length ≤ 8
                · have c6' : ¬ (8 : Int) < (p.Head.Points.length : Int) := by omega
                  simp [c1, c2, c3, c4, c5, c6, c5', c6']
                · have c6' : (8 : Int) < (p.Head.Points.length : Int) := by omega
                  simp [c1, c2, c3, c4, c5, c6, c5', c6']
              · have c5' : (64 : Int) < (p.Head.Items.length : Int) := by omega
                simp [c2, c3, c4, c5, c5']
            · simp [c2, c3, c4]
          · simp [c2, c3]
        · simp [c2]
      · rw [decide_eq_false c1]; simp [c1]
    · rw [if_pos hk]
      have hv : ¬ VP p := by
        rintro (h | h)
        · exact hk h.1
        · exact hk2 h.1
      simp [hv]
/-! ### what is written -/
def itB (x : TItem) : List (BitVec 8) := [wd8 x.Subset.Node, wd8 x.Subset.Minus] ++ kby x.Box
def ptB (x : TPoint) : List (BitVec 8) := be x.X 8 ++ be x.Y 8
/-- the body of a packet -/
def bdy (p : TPacket) : List (BitVec 8) :=
  [p.Kind] ++ (if p.Kind = 2#8 then [p.Low] ++ (be p.Number 8 ++ (be (wd (p.Data.length : Int)) 2 ++ p.Data))
  else be (wd p.Epoch) 8 ++ ([wd8 (p.Head.Items.length : Int)] ++ (p.Head.Items.flatMap itB ++ (be p.Head.Base 8 ++ ([wd8 (p.Head.Points.length : Int)] ++ (p.Head.Points.flatMap ptB ++ (kby p.Head.Box ++ kby p.Head.Check)))))))
def bts (p : TPacket) : List (BitVec 8) := bdy p ++ kby p.Mac
/-- packets that memory holds with ease -/
def Sm (p : TPacket) : Prop := p.Head.Items.length ≤ 1000 ∧ p.Head.Points.length ≤ 1000 ∧ p.Data.length ≤ 100000
theorem itB_len (x : TItem) : (itB x).length = 18 := rfl
theorem ptB_len (x : TPoint) : (ptB x).length = 16 := by simp [ptB, be_len]
theorem flat_len {α : Type} (f : α → List (BitVec 8)) (c : Nat) (hf : ∀ a, (f a).length = c) : ∀ l : List α, (l.flatMap f).length = c * l.length
  | [] => by simp
  | a :: l => by rw [List.flatMap_cons, List.length_append, hf, flat_len f c hf l, List.length_cons, Nat.mul_add, Nat.mul_one, Nat.add_comm]
theorem flat_snoc {α : Type} (f : α → List (BitVec 8)) (l : List α) (j : Nat) (h : j < l.length) : (l.take (j + 1)).flatMap f = (l.take j).flatMap f ++ f l[j] := by rw [take_snoc l j h, List.flatMap_append]; simp
theorem body_eq (p : TPacket) (hs : Sm p) : epoch_body p = some (bdy p) := by
  obtain ⟨s1, s2, s3⟩ := hs
  unfold epoch_body
  rw [put_eq (kk := 1) _ _ 1 rfl (by omega) (by simp), bind_some, be1_8]
  unfold bdy
  by_cases hk : p.Kind = 2#8
  · rw [if_pos hk, if_pos hk, put_eq (kk := 1) _ _ 1 rfl (by omega) (by simp), bind_some, be1_8, put_eq (kk := 8) _ _ 8 rfl (by omega) (by simp), bind_some, put_eq (kk := 2) _ _ 2 rfl (by omega) (by simp [be_len]), bind_some, appG_some (by simp [be_len]; omega), bind_some]
    simp
  · rw [if_neg hk, if_neg hk, put_eq (kk := 8) _ _ 8 rfl (by omega) (by simp), bind_some, put_eq (kk := 1) _ _ 1 rfl (by omega) (by simp [be_len]), bind_some, be1_wd]
    have hI : ∀ j, ((p.Head.Items.take j).flatMap itB).length ≤ 18000 := fun j => by rw [flat_len itB 18 itB_len, List.length_take]; omega
    have hP : ∀ j, ((p.Head.Points.take j).flatMap ptB).length ≤ 16000 := fun j => by rw [flat_len ptB 16 ptB_len, List.length_take]; omega
    refine goE _ (fun j x => x = ((j : Int), (⟨[] ++ [p.Kind] ++ be (wd p.Epoch) 8 ++ [wd8 (p.Head.Items.length : Int)] ++ (p.Head.Items.take j).flatMap itB⟩ : Tepoch_writer))) p.Head.Items.length _ (by omega) (by simp) ?_ ?_
    · rintro j _ hj rfl
      refine ⟨_, rfl, fun rec => ?_⟩
      have := hI j
      simp only [epoch_body_L1]
      rw [if_pos (by omega), getI_some hj, bind_some, put_eq (kk := 1) _ _ 1 rfl (by omega) (by simp only [List.length_append, be_len, List.length_cons, List.length_nil, kby_len]; omega), bind_some, be1_wd, put_eq (kk := 1) _ _ 1 rfl (by omega) (by simp only [List.length_append, be_len, List.length_cons, List.length_nil, kby_len]; omega), bind_some, be1_wd]
      unfold epoch_writer_key
      rw [appG_some (by simp only [List.length_append, be_len, List.length_cons, List.length_nil, kby_len]; omega), bind_some, bind_some, w64_nat (by omega), flat_snoc itB _ _ hj]
      simp only [itB, List.append_assoc, List.singleton_append, List.cons_append, List.nil_append]
    · rintro _ rfl rec
      have := hI p.Head.Items.length
      simp only [epoch_body_L1]
      rw [List.take_length] at this ⊢
      rw [if_neg (by omega), put_eq (kk := 8) _ _ 8 rfl (by omega) (by simp only [List.length_append, be_len, List.length_cons, List.length_nil, kby_len]; omega), bind_some, put_eq (kk := 1) _ _ 1 rfl (by omega) (by simp only [List.length_append, be_len, List.length_cons, List.length_nil, kby_len]; omega), bind_some, be1_wd]
      refine goE _ (fun j x => x = ((j : Int), (⟨[] ++ [p.Kind] ++ be (wd p.Epoch) 8 ++ [wd8 (p.Head.Items.length : Int)] ++ p.Head.Items.flatMap itB ++ be p.Head.Base 8 ++ [wd8 (p.Head.Points.length : Int)] ++ (p.Head.Points.take j).flatMap ptB⟩ : Tepoch_writer))) p.Head.Points.length _ (by omega) (by simp) ?_ ?_
      · rintro j _ hj rfl
        refine ⟨_, rfl, fun rec => ?_⟩
        have h2 := hP j
        simp only [epoch_body_L2]
        rw [if_pos (by omega), getI_some hj, bind_some, put_eq (kk := 8) _ _ 8 rfl (by omega) (by simp only [List.length_append, be_len, List.length_cons, List.length_nil]; omega), bind_some, put_eq (kk := 8) _ _ 8 rfl (by omega) (by simp only [List.length_append, be_len, List.length_cons, List.length_nil]; omega), bind_some, w64_nat (by omega), flat_snoc ptB _ _ hj]
        simp only [ptB, List.append_assoc]
      · rintro _ rfl rec
        have h2 := hP p.Head.Points.length
        simp only [epoch_body_L2]
        unfold epoch_writer_key
        rw [if_neg (by omega), appG_some (by simp only [List.length_append, be_len, List.length_cons, List.length_nil, kby_len]; omega), bind_some, bind_some, appG_some (by simp only [List.length_append, be_len, List.length_cons, List.length_nil, kby_len]; omega), bind_some, bind_some, List.take_length]
        simp only [List.append_assoc, List.nil_append]
theorem rbody_eq (p : TPacket) (hs : Sm p) : ref05_Body p = some (bdy p) := by
  obtain ⟨s1, s2, s3⟩ := hs
  unfold ref05_Body bdy
  by_cases hk : p.Kind = 2#8
  · rw [if_pos hk, if_pos hk, appG_some (by simp), bind_some, num_eq (kk := 8) _ _ 8 rfl (by omega) (by simp), bind_some, num_eq (kk := 2) _ _ 2 rfl (by omega) (by simp [be_len]), bind_some, appG_some (by simp [be_len]; omega), bind_some]
    simp
  · rw [if_neg hk, if_neg hk, num_eq (kk := 8) _ _ 8 rfl (by omega) (by simp), bind_some, appG_some (by simp [be_len]), bind_some]
    have hI : ∀ j, ((p.Head.Items.take j).flatMap itB).length ≤ 18000 := fun j => by rw [flat_len itB 18 itB_len, List.length_take]; omega
    have hP : ∀ j, ((p.Head.Points.take j).flatMap ptB).length ≤ 16000 := fun j => by rw [flat_len ptB 16 ptB_len, List.length_take]; omega
    refine goE _ (fun j x => x = ([p.Kind] ++ be (wd p.Epoch) 8 ++ [wd8 (p.Head.Items.length : Int)] ++ (p.Head.Items.take j).flatMap itB, (j : Int))) p.Head.Items.length _ (by omega) (by simp) ?_ ?_
    · rintro j _ hj rfl
      refine ⟨_, rfl, fun rec => ?_⟩
      have := hI j
      simp only [ref05_Body_L1]
      rw [if_pos (by omega), getI_some hj, bind_some, appG_some (by simp only [List.length_append, be_len, List.length_cons, List.length_nil, kby_len]; omega), bind_some, appG_some (by simp only [List.length_append, be_len, List.length_cons, List.length_nil, kby_len]; omega), bind_some, w64_nat (by omega), flat_snoc itB _ _ hj]
      simp only [itB, List.append_assoc]
    · rintro _ rfl rec
      have := hI p.Head.Items.length
      simp only [ref05_Body_L1]
      rw [if_neg (by omega), num_eq (kk := 8) _ _ 8 rfl (by omega) (by simp only [List.length_append, be_len, List.length_cons, List.length_nil]; omega), bind_some, appG_some (by simp only [List.length_append, be_len, List.length_cons, List.length_nil]; omega), bind_some, List.take_length]
      rw [List.take_length] at this
      refine goE _ (fun j x => x = ([p.Kind] ++ be (wd p.Epoch) 8 ++ [wd8 (p.Head.Items.length : Int)] ++ p.Head.Items.flatMap itB ++ be p.Head.Base 8 ++ [wd8 (p.Head.Points.length : Int)] ++ (p.Head.Points.take j).flatMap ptB, (j : Int))) p.Head.Points.length _ (by omega) (by simp) ?_ ?_
      · rintro j _ hj rfl
        refine ⟨_, rfl, fun rec => ?_⟩
        have h2 := hP j
        simp only [ref05_Body_L2]
        rw [if_pos (by omega), getI_some hj, bind_some, num_eq (kk := 8) _ _ 8 rfl (by omega) (by simp only [List.length_append, be_len, List.length_cons, List.length_nil]; omega), bind_some, bind_some, num_eq (kk := 8) _ _ 8 rfl (by omega) (by simp only [List.length_append, be_len, List.length_cons, List.length_nil]; omega), bind_some, w64_nat (by omega), flat_snoc ptB _ _ hj]
        simp only [ptB, List.append_assoc]
      · rintro _ rfl rec
        have h2 := hP p.Head.Points.length
        simp only [ref05_Body_L2]
        rw [if_neg (by omega), appG_some (by simp only [List.length_append, be_len, List.length_cons, List.length_nil, kby_len]; omega), bind_some, appG_some (by simp only [List.length_append, be_len, List.length_cons, List.length_nil, kby_len]; omega), bind_some, List.take_length]
        simp only [List.append_assoc]
theorem bdy_len (p : TPacket) (hs : Sm p) : (bdy p).length ≤ 200000 := by
  obtain ⟨s1, s2, s3⟩ := hs
  unfold bdy
  split
  · simp only [List.length_append, be_len, List.length_cons, List.length_nil]; omega
  · simp only [List.length_append, be_len, List.length_cons, List.length_nil, kby_len, flat_len itB 18 itB_len, flat_len ptB 16 ptB_len]; omega
theorem enc_eq (p : TPacket) (hs : Sm p) : epoch_Encode p = some (if VP p then (bts p, 0) else ([], 8)) := by
  have := bdy_len p hs
  unfold epoch_Encode
  rw [chk_eq p (by have := hs.1; omega), bind_some]
  by_cases hv : VP p
  · rw [if_pos hv, if_neg (by simp), body_eq p hs, bind_some, appG_some (by rw [kby_len]; omega), bind_some, if_pos hv]; rfl
  · rw [if_neg hv, if_pos (by decide), if_neg hv]
theorem rbts_eq (p : TPacket) (hs : Sm p) : ref05_Bytes p = some (bts p) := by
  have := bdy_len p hs
  unfold ref05_Bytes
  rw [rbody_eq p hs, bind_some, appG_some (by rw [kby_len]; omega), bind_some]; rfl
theorem renc_eq (p : TPacket) (hs : Sm p) : ref05_Encode p = some (if VP p then (bts p, 0) else ([], 8)) := by
  unfold ref05_Encode
  rw [rchk_eq p (by have := hs.1; omega), bind_some]
  by_cases hv : VP p
  · rw [decide_eq_true hv, if_pos hv, rbts_eq p hs]; rfl
  · rw [decide_eq_false hv, if_neg hv]; rfl
end Go.Sx.Ep
