/- From a law's arguments, as they are read before the call, to mirrors. -/
import Derived.Test.YtjdffpglgkefmaaGreatRow
import Derived.Test.YtjdffpglgkefmaaGreatMirF
import Derived.SizedLaws
set_option linter.unusedVariables false
set_option linter.unusedSimpArgs false
namespace Go.Sx
open Go Go.RowKit

def I64 (n : Int) : Prop := -9223372036854775808 ≤ n ∧ n ≤ 9223372036854775807
section
variable {H : Type} {enc : TypeId × Value → H} {P : Program} {W : World} {fuel : Nat} {t e : TypeId} {cs : List Value} {x : DataW H × List MemPlace}
/-- what is read takes no more than the form's reach -/
def Sz (P : Program) (t : TypeId) (d : DataW H) : Prop := ∀ n ∈ d.weights P t, n ≤ reachBytes
abbrev Tr (enc : TypeId × Value → H) (P : Program) (W : World) (fuel : Nat) (t : TypeId) (cs : List Value) (x : DataW H × List MemPlace) : Prop := DataW.trod enc P W 0 (fun _ => true) true fuel t cs = some x
theorem op_i64 (hu : P.underlying t = some (.int .i64)) (h : Tr enc P W fuel t cs x) : ∃ n : Int, cs = [.int .i64 n] ∧ I64 n := by
  obtain ⟨n, rfl, _, hw⟩ := DataW.trod_int hu h
  simp [Lit.wf, IntKind.min, IntKind.max, IntKind.signed, IntKind.bits] at hw
  exact ⟨n, rfl, by unfold I64; omega⟩
theorem op_u64 (hu : P.underlying t = some (.int .u64)) (h : Tr enc P W fuel t cs x) : ∃ n : BitVec 64, cs = [wv n] := by
  obtain ⟨n, rfl, _, hw⟩ := DataW.trod_int hu h
  simp [Lit.wf, IntKind.min, IntKind.max, IntKind.signed, IntKind.bits] at hw
  refine ⟨wd n, ?_⟩
  show [Value.int .u64 n] = [Value.int .u64 (un (wd n))]
  rw [un_wd n (by omega) (by omega)]
theorem op_u8 (hu : P.underlying t = some (.int .u8)) (h : Tr enc P W fuel t cs x) : ∃ n : BitVec 8, cs = [bv n] := by
  obtain ⟨n, rfl, _, hw⟩ := DataW.trod_int hu h
  simp [Lit.wf, IntKind.min, IntKind.max, IntKind.signed, IntKind.bits] at hw
  refine ⟨wd8 n, ?_⟩
  show [Value.int .u8 n] = [Value.int .u8 (un8 (wd8 n))]
  have : un8 (wd8 n) = n := by unfold un8 wd8; rw [BitVec.toNat_ofInt]; omega
  rw [this]
theorem op_bool (hu : P.underlying t = some .bool) (h : Tr enc P W fuel t cs x) : ∃ b : Bool, cs = [.bool b] := by
  obtain ⟨b, rfl, _⟩ := DataW.trod_bool hu h
  exact ⟨b, rfl⟩
theorem get1 {cs : List Value} {i : Nat} {v : Value} (h : (cs.drop (i * 1)).take 1 = [v]) : cs[i]? = some v := by
  have : ((cs.drop (i * 1)).take 1)[0]? = some v := by rw [h]; rfl
  simpa [List.getElem?_take, List.getElem?_drop] using this
theorem op_bytes (he : P.underlying e = some (.int .u8)) (hc : P.cellsOf e = 1) {m n : Nat} {xs : List (DataW H × List MemPlace)} (hl : cs.length = n) (hx : xs.length = n)
    (h : ∀ i, i < n → DataW.trod enc P W 0 (fun _ => true) true m e ((cs.drop (i * P.cellsOf e)).take (P.cellsOf e)) = xs[i]?) : ∃ l : List (BitVec 8), l.length = n ∧ cs = (l.map bvc).flatten := by
  have key : ∀ i, i < n → ∃ b : BitVec 8, cs[i]? = some (bv b) := fun i hi => by
    have h1 := h i hi
    rw [hc] at h1
    have : ∃ y, xs[i]? = some y := ⟨xs[i], by simp [hx, hi]⟩
    obtain ⟨y, hy⟩ := this
    rw [hy] at h1
    obtain ⟨b, hb⟩ := op_u8 he h1
    exact ⟨b, get1 hb⟩
  refine ⟨List.ofFn fun i : Fin n => Classical.choose (key i.1 i.2), by simp, ?_⟩
  have hf : ∀ (l : List (BitVec 8)), (l.map bvc).flatten = l.map bv := by
    intro l
    induction l with
    | nil => rfl
    | cons a l ih => simp only [List.map_cons, List.flatten_cons, ih]; rfl
  rw [hf]
  apply List.ext_getElem?
  intro i
  by_cases hi : i < n
  · rw [Classical.choose_spec (key i hi)]
    simp [hi]
  · rw [List.getElem?_eq_none (by omega), List.getElem?_eq_none (by simp; omega)]
theorem op_key (hu : P.underlying t = some (.array 16 e)) (he : P.underlying e = some (.int .u8)) (hc : P.cellsOf e = 1) (ht : P.cellsOf t = 16) (h : Tr enc P W fuel t cs x) : ∃ p : W2, cs = kb p := by
  obtain ⟨xs, m, rfl, rfl, hl, hx, hf⟩ := DataW.trod_array hu h
  obtain ⟨l, h1, h2⟩ := op_bytes he hc (hl.trans ht) hx hf
  refine ⟨ofB l, ?_⟩
  rw [kb_kby, kby_ofB (by omega), List.take_of_length_le (by omega)]; exact h2
theorem sz_field {fs : Array Field} {parts : List (DataW H)} (hu : P.underlying t = some (.struct fs)) (h : Sz P t (.agg parts)) {i : Nat} {u : TypeId} {d : DataW H} (ht : (fs.toList.map (·.type))[i]? = some u) (hd : parts[i]? = some d) : Sz P u d := fun n hn =>
  h n (by simp only [DataW.weights, hu]; exact DataW.weights_mem_each ht hd n hn)
theorem fld {fs : Array Field} {n : Nat} {xs : List (DataW H × List MemPlace)} (hf : ∀ (i : Nat) (f : Field), fs[i]? = some f → DataW.trod enc P W 0 (fun _ => true) true n f.type ((cs.drop f.offset).take (P.cellsOf f.type)) = xs[i]?) {i o k : Nat} {u : TypeId} {f : Field} {y : DataW H × List MemPlace}
    (hi : fs[i]? = some f) (h1 : f.type = u) (h2 : f.offset = o) (h3 : P.cellsOf u = k) (e : xs[i]? = some y) : Tr enc P W n u ((cs.drop o).take k) y := by
  subst h1; subst h2; subst h3
  exact (hf i f hi).trans e
theorem elA {n m k o i : Nat} {xs : List (DataW H × List MemPlace)} (hf : ∀ i, i < n → DataW.trod enc P W 0 (fun _ => true) true m e ((cs.drop (i * P.cellsOf e)).take (P.cellsOf e)) = xs[i]?) {y : DataW H × List MemPlace} (hi : i < n) (hk : P.cellsOf e = k) (ho : i * k = o) (ey : xs[i]? = some y) : Tr enc P W m e ((cs.drop o).take k) y := by
  subst hk; subst ho
  exact (hf i hi).trans ey
theorem cat_step {cs a r : List Value} {o k : Nat} (h : (cs.drop o).take k = a) (hr : cs.drop (o + k) = r) : cs.drop o = a ++ r := by rw [← h, ← hr, ← List.drop_drop, List.take_append_drop]
theorem cat_end {cs : List Value} {n : Nat} (h : cs.length = n) : cs.drop n = [] := List.drop_eq_nil_of_le (by omega)
theorem some_at {α : Type} {xs : List α} {n i : Nat} (h : xs.length = n) (hi : Nat.blt i n = true) : ∃ y, xs[i]? = some y := ⟨xs[i]'(by rw [h]; exact Nat.le_of_ble_eq_true hi), by simp⟩
theorem cells_get {w : World} {a : Addr} {n : Nat} {cs : List Value} (h : w.cells? 0 a n = some cs) : cs.length = n ∧ ∀ q u, cs[q]? = some u → w.cell? (a.add q) = some u := by
  unfold World.cells? at h
  rw [if_pos (Nat.zero_le _)] at h
  have hl := mapM_some_length h
  rw [List.length_range] at hl
  refine ⟨hl, fun q u hq => ?_⟩
  have hqn : q < n := by rw [← hl]; exact (List.getElem?_eq_some_iff.1 hq).1
  have := mapM_some_get h q q (by simp [hqn])
  rw [this]; exact hq
/-! the arguments' own shapes -/
theorem okv_agg {r : Reach} {base : Nat} {v : Value} (hu : (∃ fs, P.underlying t = some (.struct fs)) ∨ ∃ n e, P.underlying t = some (.array n e)) (h : Value.okWide P W r base t v) : ∃ cs : List Value, v = .agg cs.toArray := by
  unfold Value.okWide at h
  split at h
  · obtain ⟨cs, rfl, _⟩ := h; exact ⟨cs.toList, rfl⟩
  · obtain ⟨cs, rfl, _⟩ := h; exact ⟨cs.toList, rfl⟩
  · rename_i h1 h2
    rcases hu with ⟨fs, hu⟩ | ⟨n, e, hu⟩
    · exact absurd hu (h1 fs)
    · exact absurd hu (h2 n e)
theorem okv_cell {r : Reach} {base : Nat} {v : Value} (h1 : ∀ fs, P.underlying t ≠ some (.struct fs)) (h2 : ∀ n e, P.underlying t ≠ some (.array n e)) (h : Value.okWide P W r base t v) : Cell.okWide P W r base t v := by
  unfold Value.okWide at h
  split at h
  · rename_i h3; exact absurd h3 (h1 _)
  · rename_i h3; exact absurd h3 (h2 _ _)
  · exact h
theorem okv_i64 {r : Reach} {base : Nat} {v : Value} (hu : P.underlying t = some (.int .i64)) (h : Value.okWide P W r base t v) : ∃ n : Int, v = .int .i64 n ∧ I64 n := ok_i64 hu (okv_cell (by simp [hu]) (by simp [hu]) h)
theorem okv_u64 {r : Reach} {base : Nat} {v : Value} (hu : P.underlying t = some (.int .u64)) (h : Value.okWide P W r base t v) : ∃ n : BitVec 64, v = wv n := ok_u64 hu (okv_cell (by simp [hu]) (by simp [hu]) h)
theorem okv_u8 {r : Reach} {base : Nat} {v : Value} (hu : P.underlying t = some (.int .u8)) (h : Value.okWide P W r base t v) : ∃ n : BitVec 8, v = bv n := by
  obtain ⟨n, rfl, h1, h2⟩ := ok_u8 hu (okv_cell (by simp [hu]) (by simp [hu]) h)
  refine ⟨wd8 n, ?_⟩
  have : un8 (wd8 n) = n := by unfold un8 wd8; rw [BitVec.toNat_ofInt]; omega
  show Value.int .u8 n = Value.int .u8 (un8 (wd8 n))
  rw [this]
theorem cells_agg (cs : List Value) : (Value.agg cs.toArray).cells.toList = cs := rfl
theorem cells_sl (a : Option Addr) (l c : Nat) : (Value.slice a l c).cells.toList = [.slice a l c] := rfl
/-- a slice -/
theorem op_sl {α : Type} {c : α → List Value} {ok : α → Prop} {sz bytes : Nat} (hu : P.underlying t = some (.slice e)) (hc : P.cellsOf e = sz) (hb : P.bytesOf e = bytes) (hpos : 1 ≤ sz) (hcs : ∀ a, (c a).length = sz ∧ ones (c a) = true)
    (hel : ∀ (fuel : Nat) (cs : List Value) (x : DataW H × List MemPlace), Tr enc P W fuel e cs x → ∃ m : α, cs = c m ∧ ok m) (h : Tr enc P W fuel t cs x) (hw : Sz P t x.1) :
    ∃ (l : List α) (v : Value) (z g o : Nat), cs = [v] ∧ Rd W z g o sz v (l.map c) ∧ (∀ a ∈ l, ok a) ∧ l.length * bytes ≤ 140737488351232 := by
  rcases DataW.trod_slice hu h with ⟨rfl, rfl⟩ | ⟨a, len, cap, elems, rest, n, rfl, rfl, rfl, _, hlc, hcm, hel2, hget, _, _⟩
  · exact ⟨[], _, 0, 0, 0, rfl, ⟨ws_nil _, .inl ⟨rfl, rfl, none, 0, rfl⟩⟩, by simp, by simp⟩
  · have key : ∀ i, i < len → ∃ m : α, W.cells? 0 (a.add (i * sz)) sz = some (c m) ∧ ok m := fun i hi => by
      have h1 := hget i hi
      rw [hc] at h1
      have hy : elems[i]? = some elems[i] := by simp
      rw [hy] at h1
      rw [Option.bind_eq_some_iff] at h1
      obtain ⟨cs', h2, h3⟩ := h1
      obtain ⟨m, rfl, hm⟩ := hel _ _ _ h3
      exact ⟨m, h2, hm⟩
    let f : Fin len → α := fun i => Classical.choose (key i.1 i.2)
    have hf : ∀ i (hi : i < len), W.cells? 0 (a.add (i * sz)) sz = some (c (f ⟨i, hi⟩)) ∧ ok (f ⟨i, hi⟩) := fun i hi => Classical.choose_spec (key i hi)
    have hws : Ws sz ((List.ofFn f).map c) := fun y hy => by
      obtain ⟨b, _, rfl⟩ := List.mem_map.1 hy; exact hcs b
    have hbd : (List.ofFn f).length * bytes ≤ 140737488351232 := by
      have := hw ((elems.length + rest.length) * P.bytesOf e) (by simp [DataW.weights, hu])
      rw [hb] at this
      have h2 : elems.length * bytes ≤ (elems.length + rest.length) * bytes := Nat.mul_le_mul_right _ (by omega)
      have h3 : reachBytes = 140737488351232 := by decide
      rw [List.length_ofFn, ← hel2]; omega
    rcases Nat.eq_zero_or_pos len with h0 | hp
    · refine ⟨List.ofFn f, _, 0, 0, 0, rfl, ⟨hws, .inl ⟨rfl, ?_, some a, cap, by rw [h0]⟩⟩, ?_, hbd⟩
      · apply List.eq_nil_of_length_eq_zero; simp [h0]
      · intro b hb'; obtain ⟨i, rfl⟩ := List.mem_ofFn.1 hb'; exact (hf i.1 i.2).2
    · have hcell : ∀ j u, ((List.ofFn f).map c).flatten[j]? = some u → W.cell? (a.add j) = some u := fun j u hj => by
        have hjl : j < len * sz := by
          have h1 := (List.getElem?_eq_some_iff.1 hj).1
          rw [hws.flat] at h1; simpa using h1
        have hq : j % sz < sz := Nat.mod_lt _ (by omega)
        have hi : j / sz < len := (Nat.div_lt_iff_lt_mul (by omega)).2 hjl
        obtain ⟨h1, _⟩ := hf (j / sz) hi
        have h2 := hws.at (j / sz) (j % sz) (c (f ⟨j / sz, hi⟩)) (by simp [hi]) hq
        have hdm : j / sz * sz + j % sz = j := by rw [Nat.mul_comm]; exact Nat.div_add_mod j sz
        rw [hdm, hj] at h2
        have h3 := (cells_get h1).2 (j % sz) u h2.symm
        rw [Addr.add_add, hdm] at h3; exact h3
      have hsp : a.spot = none := by
        have h0 : ∃ u, ((List.ofFn f).map c).flatten[0]? = some u := by
          have : 0 < ((List.ofFn f).map c).flatten.length := by rw [hws.flat]; simp; exact Nat.mul_pos hp (by omega)
          exact ⟨_, List.getElem?_eq_getElem this⟩
        obtain ⟨u, hu0⟩ := h0
        simpa [Addr.add] using World.cell?_spot (hcell 0 u hu0)
      obtain ⟨g, o, spot⟩ := a
      simp only at hsp; subst hsp
      have hlt : g < W.heap.size := by
        have h0 : ∃ u, ((List.ofFn f).map c).flatten[0]? = some u := by
          have : 0 < ((List.ofFn f).map c).flatten.length := by rw [hws.flat]; simp; exact Nat.mul_pos hp (by omega)
          exact ⟨_, List.getElem?_eq_getElem this⟩
        obtain ⟨u, hu0⟩ := h0
        have h1 := hcell 0 u hu0
        rcases Nat.lt_or_ge g W.heap.size with h | h
        · exact h
        · simp [World.cell?, Addr.add, Array.getElem?_eq_none h] at h1
      refine ⟨List.ofFn f, _, 1, g, o, rfl, ⟨hws, .inr ⟨rfl, cap, by simp, ⟨hlt, by simpa using hlc⟩, fun j u hj => ?_⟩⟩, ?_, hbd⟩
      · have := hcell j u hj; rw [Addr.add_lit] at this; exact this
      · intro b hb'; obtain ⟨i, rfl⟩ := List.mem_ofFn.1 hb'; exact (hf i.1 i.2).2
end
end Go.Sx
