/- SX: == on structs and arrays of integers. -/
import Derived.Test.YtjdffpglgkefmaaGreatSxOps
import Derived.Laws.StructEq
import Derived.Laws.Small
import Derived.ChangeKeysEq
set_option linter.unusedVariables false
set_option linter.unusedSimpArgs false
namespace Go.Sx
open Go Go.RowKit

/-- a proposition's Bool -/
noncomputable def dcd (p : Prop) : Bool := @decide p (Classical.propDecidable p)
section
open Classical
theorem dcd_t {p : Prop} (h : dcd p = true) : p := of_decide_eq_true h
theorem dcd_f {p : Prop} (h : dcd p = false) : ¬ p := of_decide_eq_false h
theorem dcd_true {p : Prop} (h : p) : dcd p = true := decide_eq_true h
theorem dcd_false {p : Prop} (h : ¬ p) : dcd p = false := decide_eq_false h
end
theorem dcd_eq {p : Prop} {b : Bool} (h : b = true ↔ p) : b = dcd p := by
  by_cases hp : p
  · rw [dcd_true hp]; exact h.2 hp
  · rw [dcd_false hp]; cases b with
    | false => rfl
    | true => exact absurd (h.1 rfl) hp
theorem dcd_and {p q r : Prop} (h : r ↔ p ∧ q) : dcd r = (dcd p && dcd q) := by
  symm; apply dcd_eq
  rw [h, Bool.and_eq_true]
  exact ⟨fun h => ⟨dcd_t h.1, dcd_t h.2⟩, fun h => ⟨dcd_true h.1, dcd_true h.2⟩⟩
/-- a cell: an integer of a kind, or a bool -/
inductive Ck | i (k : IntKind) | b
/-- values of these kinds -/
def kn : List Ck → List Value → Bool
  | [], [] => true
  | .i k :: ks, .int k' _ :: vs => k == k' && kn ks vs
  | .b :: ks, .bool _ :: vs => kn ks vs
  | _, _ => false
theorem kn_len : ∀ {ks : List Ck} {vs : List Value}, kn ks vs = true → vs.length = ks.length
  | [], [], _ => rfl
  | .i k :: ks, .int k' _ :: vs, h => by simp [kn] at h; simp [kn_len h.2]
  | .b :: ks, .bool _ :: vs, h => by simp [kn] at h; simp [kn_len h]
theorem kn_append : ∀ {ks ks' : List Ck} {vs : List Value}, kn (ks ++ ks') vs = true → kn ks (vs.take ks.length) = true ∧ kn ks' (vs.drop ks.length) = true
  | [], ks', vs, h => by simpa [kn] using h
  | .i k :: ks, ks', .int k' n :: vs, h => by
    simp [kn] at h
    obtain ⟨h1, h2⟩ := kn_append h.2
    exact ⟨by simp [kn, h.1, h1], by simpa using h2⟩
  | .b :: ks, ks', .bool n :: vs, h => by
    simp [kn] at h
    obtain ⟨h1, h2⟩ := kn_append h
    exact ⟨by simp [kn, h1], by simpa using h2⟩

def EqC (P : Program) (n : Nat) (t : TypeId) (ks : List Ck) : Prop := ∀ d, n ≤ d → ∀ (xs ys : Array Value) (off : Nat) (w : World) (s s' : List Value), kn ks s = true → kn ks s' = true → (xs.toList.drop off).take ks.length = s → (ys.toList.drop off).take ks.length = s' →
  ∃ a b, (part t xs off).run P w = .ok a w ∧ (part t ys off).run P w = .ok b w ∧ (Op.equalIn d t a b).run P w = .ok (dcd (s = s')) w
def EqF (P : Program) (n : Nat) (fs : List Field) (off : Nat) (ks : List Ck) : Prop := ∀ d, n ≤ d → ∀ (xs ys : Array Value) (w : World) (s s' : List Value), kn ks s = true → kn ks s' = true → (xs.toList.drop off).take ks.length = s → (ys.toList.drop off).take ks.length = s' →
  (Op.eqFields d xs ys fs).run P w = .ok (dcd (s = s')) w
def EqI (P : Program) (n : Nat) (e : TypeId) (c : Nat) (is : List Nat) (off : Nat) (ks : List Ck) : Prop := ∀ d, n ≤ d → ∀ (xs ys : Array Value) (w : World) (s s' : List Value), kn ks s = true → kn ks s' = true → (xs.toList.drop off).take ks.length = s → (ys.toList.drop off).take ks.length = s' →
  (Op.eqItems d e c xs ys is).run P w = .ok (dcd (s = s')) w
theorem seg_cut (l r : List Value) (off a b : Nat) (hr : r.length = a + b) (hz : (l.drop off).take a ++ (l.drop (off + a)).take b = r) : (l.drop off).take a = r.take a ∧ (l.drop (off + a)).take b = r.drop a := by
  have hl1 : ((l.drop off).take a).length = a := by
    have := congrArg List.length hz
    simp only [List.length_append, List.length_take, List.length_drop, hr] at this ⊢
    omega
  subst hz
  exact ⟨by rw [List.take_append_of_le_length (Nat.le_of_eq hl1.symm), List.take_of_length_le (Nat.le_of_eq hl1)], by rw [List.drop_append_of_le_length (Nat.le_of_eq hl1.symm), List.drop_of_length_le (Nat.le_of_eq hl1)]; simp⟩
theorem seg_split (l : List Value) (off a b : Nat) : (l.drop off).take (a + b) = (l.drop off).take a ++ (l.drop (off + a)).take b := by
  rw [List.take_add, List.drop_drop]
section
variable {P : Program} {n : Nat} {t e : TypeId} {ks : List Ck}
theorem eqc_bool (hu : P.underlying t = some .bool) (h1 : One P t) : EqC P 1 t [.b] := by
  intro d hd xs ys off w s s' hs hs' hx hy
  have get : ∀ (zs : Array Value) (r : List Value), kn [.b] r = true → (zs.toList.drop off).take 1 = r → ∃ m, r = [.bool m] ∧ (part t zs off).run P w = .ok (.bool m) w := by
    intro zs r hr hz
    match r, hr, kn_len hr with
    | [.bool m], hr, _ =>
      refine ⟨m, rfl, ?_⟩
      have hg : zs[off]? = some (.bool m) := by
        have := congrArg (fun l => l[0]?) hz
        simp [List.getElem?_take] at this
        exact this
      simp [part, (h1 w).1, hg]
  obtain ⟨a, rfl, ha⟩ := get xs s hs hx
  obtain ⟨b, rfl, hb⟩ := get ys s' hs' hy
  refine ⟨_, _, ha, hb, ?_⟩
  obtain ⟨d, rfl⟩ : ∃ d', d = d' + 1 := ⟨d - 1, by omega⟩
  rw [run_equalIn_bool' w d t a b hu]
  congr 1
  exact dcd_eq (by simp)
theorem eqc_int {k : IntKind} (hu : P.underlying t = some (.int k)) (h1 : One P t) : EqC P 1 t [.i k] := by
  intro d hd xs ys off w s s' hs hs' hx hy
  have get : ∀ (zs : Array Value) (r : List Value), kn [.i k] r = true → (zs.toList.drop off).take 1 = r → ∃ m, r = [.int k m] ∧ (part t zs off).run P w = .ok (.int k m) w := by
    intro zs r hr hz
    match r, hr, kn_len hr with
    | [.int k' m], hr, _ =>
      simp [kn] at hr; subst hr
      refine ⟨m, rfl, ?_⟩
      have hg : zs[off]? = some (.int k m) := by
        have := congrArg (fun l => l[0]?) hz
        simp [List.getElem?_take] at this
        exact this
      simp [part, (h1 w).1, hg]
  obtain ⟨a, rfl, ha⟩ := get xs s hs hx
  obtain ⟨b, rfl, hb⟩ := get ys s' hs' hy
  refine ⟨_, _, ha, hb, ?_⟩
  obtain ⟨d, rfl⟩ : ∃ d', d = d' + 1 := ⟨d - 1, by omega⟩
  rw [run_equalIn_int w d t k k a b hu]
  congr 1
  exact dcd_eq (by simp)
theorem eqf_nil (off : Nat) : EqF P n [] off [] := by
  intro d _ xs ys w s s' hs hs' _ _
  match s, s', hs, hs' with
  | [], [], _, _ => simp [Op.eqFields, dcd_true]
theorem eqf_cons {f : Field} {fs : List Field} {off : Nat} {ks1 ks2 : List Ck} (ho : f.offset = off) (hn : f.name ≠ "_") (h1 : EqC P n f.type ks1) (h2 : EqF P n fs (off + ks1.length) ks2) : EqF P n (f :: fs) off (ks1 ++ ks2) := by
  intro d hd xs ys w s s' hs hs' hx hy
  rw [List.length_append, seg_split] at hx hy
  obtain ⟨k1, k2⟩ := kn_append hs
  obtain ⟨k1', k2'⟩ := kn_append hs'
  obtain ⟨c1, c2⟩ := seg_cut _ s _ _ _ (by rw [kn_len hs, List.length_append]) hx
  obtain ⟨c1', c2'⟩ := seg_cut _ s' _ _ _ (by rw [kn_len hs', List.length_append]) hy
  obtain ⟨a, b, ha, hb, he⟩ := h1 d hd xs ys off w _ _ k1 k1' c1 c1'
  have hr := h2 d hd xs ys w _ _ k2 k2' c2 c2'
  simp only [Op.eqFields, hn, ne_eq, not_false_eq_true, if_true, Sem.run_bind, ho, ha, hb, he, Result.andThen_ok]
  have key : dcd (s = s') = (dcd (s.take ks1.length = s'.take ks1.length) && dcd (s.drop ks1.length = s'.drop ks1.length)) := dcd_and ⟨fun h => by rw [h]; exact ⟨rfl, rfl⟩, fun h => by rw [← List.take_append_drop ks1.length s, h.1, h.2, List.take_append_drop]⟩
  rw [key]
  cases dcd (s.take ks1.length = s'.take ks1.length) with
  | true => simpa using hr
  | false => simp
theorem eqc_agg_part {m off : Nat} {zs : Array Value} {r : List Value} {w : World} (ha : Agg P t m) (hz : (zs.toList.drop off).take m = r) : (part t zs off).run P w = .ok (.agg r.toArray) w := by
  have e : zs.extract off (off + m) = r.toArray := by
    rw [← hz]
    apply Array.toList_inj.1
    simp [Array.toList_extract, List.extract_eq_take_drop]
  simp [part, (ha w).1, (ha w).2, e]
theorem eqc_struct {fs : Array Field} (hu : P.underlying t = some (.struct fs)) (hst : P.stoodInHeld t = false) (ha : Agg P t ks.length) (h : EqF P n fs.toList 0 ks) : EqC P (n + 1) t ks := by
  intro d hd xs ys off w s s' hs hs' hx hy
  refine ⟨_, _, eqc_agg_part ha hx, eqc_agg_part ha hy, ?_⟩
  obtain ⟨d, rfl⟩ : ∃ d', d = d' + 1 := ⟨d - 1, by omega⟩
  have hf : P.fieldsOf t = fs := by simp [Program.fieldsOf, hu]
  rw [run_equalIn_struct w d t _ _ (by rw [hf]; exact hu) hst, hf]
  refine h d (by omega) _ _ w s s' hs hs' ?_ ?_
  · rw [List.drop_zero, List.take_of_length_le (by simp [kn_len hs])]
  · rw [List.drop_zero, List.take_of_length_le (by simp [kn_len hs'])]
theorem eqi_nil (c off : Nat) : EqI P n e c [] off [] := by
  intro d _ xs ys w s s' hs hs' _ _
  match s, s', hs, hs' with
  | [], [], _, _ => simp [Op.eqItems, dcd_true]
theorem eqi_range {c : Nat} (hc : c = ks.length) (h : EqC P n e ks) : ∀ (m i : Nat), EqI P n e c (List.range' i m) (i * c) (List.replicate m ks).flatten
  | 0, i => eqi_nil c _
  | m + 1, i => by
    have ih := eqi_range hc h m (i + 1)
    have e2 : i * c + ks.length = (i + 1) * c := by rw [Nat.add_mul]; omega
    intro d hd xs ys w s s' hs hs' hx hy
    have ff : (Op.eqItems d e c xs ys (List.range' i (m + 1))).run P w = .ok (dcd (s = s')) w := by
      rw [List.replicate_succ, List.flatten_cons] at hs hs' hx hy
      rw [List.length_append, seg_split] at hx hy
      obtain ⟨k1, k2⟩ := kn_append hs
      obtain ⟨k1', k2'⟩ := kn_append hs'
      obtain ⟨c1, c2⟩ := seg_cut _ s _ _ _ (by rw [kn_len hs, List.length_append]) hx
      obtain ⟨c1', c2'⟩ := seg_cut _ s' _ _ _ (by rw [kn_len hs', List.length_append]) hy
      obtain ⟨a, b, ha, hb, he⟩ := h d hd xs ys (i * c) w _ _ k1 k1' c1 c1'
      rw [e2] at c2 c2'
      have hr := ih d hd xs ys w _ _ k2 k2' c2 c2'
      rw [List.range'_succ]
      simp only [Op.eqItems, Sem.run_bind, ha, hb, he, Result.andThen_ok]
      have key : dcd (s = s') = (dcd (s.take ks.length = s'.take ks.length) && dcd (s.drop ks.length = s'.drop ks.length)) := dcd_and ⟨fun h => by rw [h]; exact ⟨rfl, rfl⟩, fun h => by rw [← List.take_append_drop ks.length s, h.1, h.2, List.take_append_drop]⟩
      rw [key]
      cases dcd (s.take ks.length = s'.take ks.length) with
      | true => simpa using hr
      | false => simp
    exact ff
theorem eqc_array {m : Nat} {i : TypeInfo} (hu : P.underlying t = some (.array m e)) (hi : P.info? e = some i) (hc : P.cellsOf e = ks.length) (ha : Agg P t (List.replicate m ks).flatten.length) (h : EqC P n e ks) : EqC P (n + 1) t (List.replicate m ks).flatten := by
  intro d hd xs ys off w s s' hs hs' hx hy
  refine ⟨_, _, eqc_agg_part ha hx, eqc_agg_part ha hy, ?_⟩
  obtain ⟨d, rfl⟩ : ∃ d', d = d' + 1 := ⟨d - 1, by omega⟩
  rw [run_equalIn_array w d _ _ hu hi, List.range_eq_range']
  refine eqi_range hc h m 0 d (by omega) _ _ w s s' hs hs' ?_ ?_
  · rw [Nat.zero_mul, List.drop_zero, List.take_of_length_le (by simp [kn_len hs])]
  · rw [Nat.zero_mul, List.drop_zero, List.take_of_length_le (by simp [kn_len hs'])]
theorem EqC.up {m : Nat} (h : EqC P n t ks) (hm : n ≤ m) : EqC P m t ks := fun d hd => h d (Nat.le_trans hm hd)
theorem infoE (h : (P.info? e).isSome = true) : ∃ i, P.info? e = some i := Option.isSome_iff_exists.1 h
/-- what == wants to know of a type -/
structure EqT (P : Program) (t : TypeId) (ks : List Ck) : Prop where
  guard : P.eqGuardType P.depth t = false
  agg : Agg P t ks.length
  eq : ∃ n, n ≤ 10000 ∧ EqC P n t ks
variable {L : Slots} {w : World} {dst : Option Nat} {ty u : TypeId} {pos : String} {af : Array Edge} {gu : Option (Nat × Bool)} {x y : Operand} {cs ds : List Value}
theorem EqT.run (h : EqT P t ks) (hc : kn ks cs = true) (hd : kn ks ds = true) : (Op.equalIn 10000 t (.agg cs.toArray) (.agg ds.toArray)).run P w = .ok (dcd (cs = ds)) w := by
  obtain ⟨n, hn, he⟩ := h.eq
  have t1 : ∀ (l : List Value), kn ks l = true → (l.toArray.toList.drop 0).take ks.length = l := fun l hl => by rw [List.drop_zero, List.take_of_length_le (by simp [kn_len hl])]
  obtain ⟨a, b, ha, hb, hr⟩ := he 10000 hn cs.toArray ds.toArray 0 w cs ds hc hd (t1 cs hc) (t1 ds hd)
  rw [eqc_agg_part h.agg (t1 cs hc)] at ha
  rw [eqc_agg_part h.agg (t1 ds hd)] at hb
  cases ha; cases hb
  exact hr
theorem vv_eqlA (h : EqT P t ks) (hx : ev L x = some (.agg cs.toArray)) (hy : ev L y = some (.agg ds.toArray)) (hc : kn ks cs = true) (hd : kn ks ds = true) : VV P L ⟨dst, .binOp .eql t x y u, ty, pos, af, gu⟩ w (.bool (dcd (cs = ds))) := fun ρ hρ => by
  simp [execOp, hρ _ _ hx, hρ _ _ hy, run_eqGuard_agg _ _ _ _ _ _ _ h.guard, run_eql_struct, h.run hc hd]
theorem vv_neqA (h : EqT P t ks) (hx : ev L x = some (.agg cs.toArray)) (hy : ev L y = some (.agg ds.toArray)) (hc : kn ks cs = true) (hd : kn ks ds = true) : VV P L ⟨dst, .binOp .neq t x y u, ty, pos, af, gu⟩ w (.bool (!dcd (cs = ds))) := fun ρ hρ => by
  simp [execOp, hρ _ _ hx, hρ _ _ hy, run_eqGuard_agg _ _ _ _ _ _ _ h.guard, run_neq_struct, h.run hc hd]
end
end Go.Sx
