/- MX: sets of integers by map[K]bool: made, stored into, asked, ranged over in any order. -/
import Derived.Test.YtjdffpglgkefmaaGreatMirG
import Derived.Test.YtjdffpglgkefmaaGreatWd
import Derived.Laws.IdiomRangeMap
set_option linter.unusedVariables false
set_option linter.unusedSimpArgs false
namespace Go.Sx
open Go Go.RowKit

/-! ### memory -/
def mpE (ks : List Int) : List MapEntry := ks.zipIdx.map fun x => ⟨.int .i64 x.1, .bool true, x.2⟩
structure Mo (w : World) (b : Nat) (ks : List Int) : Prop where
  nd : ks.Nodup
  row : w.heap[b]? = some (.map (mpE ks).toArray ks.length)
def remK (ks : List Int) (seen : List Nat) : List Int := (ks.zipIdx.filter fun x => !seen.contains x.2).map (·.1)
def Mi (w : World) (b m : Nat) (ks rem : List Int) : Prop := ∃ seen : List Nat, w.heap[b]? = some (.mapIter (some m) ks.length seen.toArray ks.length) ∧ rem = remK ks seen
def Mk (w : World) (b m : Nat) (ks rem : List Int) (k : Int) : Prop := ∃ (seen : List Nat) (i : Nat), w.heap[b]? = some (.mapIter (some m) ks.length (seen ++ [i]).toArray ks.length) ∧ rem = remK ks (seen ++ [i]) ∧ ks[i]? = some k
section
variable {w w' : World} {b m c z g : Nat} {ks rem : List Int} {k : Int} {l : List (Nat × Nat)}
theorem hlt {o : Obj} (h : w.heap[b]? = some o) : b < w.heap.size := (Array.getElem?_eq_some_iff.1 h).1
theorem Mo.lt (h : Mo w b ks) : b < w.heap.size := hlt h.row
theorem Mo.gr (h : Mo w b ks) (G : Gr w w') : Mo w' b ks := ⟨h.nd, (G.block b h.lt).trans h.row⟩
theorem Mo.md (h : Mo w b ks) (M : Md c w w') (ne : b ≠ c := by omega) : Mo w' b ks := ⟨h.nd, (M.block b ne).trans h.row⟩
theorem Mo.ka (h : Mo w b ks) (A : Ka z g w w') (hn : z = 0 ∨ g ≠ b := by omega) : Mo w' b ks := ⟨h.nd, (A.block b h.lt (by omega)).trans h.row⟩
theorem Mo.kz (h : Mo w b ks) (K : Kz l w w') (hn : Nin l b := by simp only [Nin, InA, InZ, mz_map, Mz, or_true, true_or, and_true, List.mem_cons, List.mem_append, mem_zf, List.not_mem_nil, or_false, false_or, not_or, ne_eq, List.nil_append, List.cons_append, true_and, and_true, false_and, and_false, not_true_eq_false, not_false_eq_true, or_true, true_or] <;> omega) : Mo w' b ks := ⟨h.nd, (K.block b h.lt hn).trans h.row⟩
theorem Mi.lt (h : Mi w b m ks rem) : b < w.heap.size := by obtain ⟨s, h, _⟩ := h; exact hlt h
theorem Mi.gr (h : Mi w b m ks rem) (G : Gr w w') : Mi w' b m ks rem := by obtain ⟨s, h1, h2⟩ := h; exact ⟨s, (G.block b (hlt h1)).trans h1, h2⟩
theorem Mi.md (h : Mi w b m ks rem) (M : Md c w w') (ne : b ≠ c := by omega) : Mi w' b m ks rem := by obtain ⟨s, h1, h2⟩ := h; exact ⟨s, (M.block b ne).trans h1, h2⟩
theorem Mi.ka (h : Mi w b m ks rem) (A : Ka z g w w') (hn : z = 0 ∨ g ≠ b := by omega) : Mi w' b m ks rem := by obtain ⟨s, h1, h2⟩ := h; exact ⟨s, (A.block b (hlt h1) (by omega)).trans h1, h2⟩
theorem Mi.kz (h : Mi w b m ks rem) (K : Kz l w w') (hn : Nin l b := by simp only [Nin, InA, InZ, mz_map, Mz, or_true, true_or, and_true, List.mem_cons, List.mem_append, mem_zf, List.not_mem_nil, or_false, false_or, not_or, ne_eq, List.nil_append, List.cons_append, true_and, and_true, false_and, and_false, not_true_eq_false, not_false_eq_true, or_true, true_or] <;> omega) : Mi w' b m ks rem := by obtain ⟨s, h1, h2⟩ := h; exact ⟨s, (K.block b (hlt h1) hn).trans h1, h2⟩
theorem Mk.mi (h : Mk w b m ks rem k) : Mi w b m ks rem := by obtain ⟨s, i, h1, h2, _⟩ := h; exact ⟨_, h1, h2⟩
end
theorem remK_nil (ks : List Int) : remK ks [] = ks := by
  unfold remK
  have : (ks.zipIdx.filter fun x => !([] : List Nat).contains x.2) = ks.zipIdx := List.filter_eq_self.2 (by simp)
  rw [this]; simp
theorem remK_snoc {ks : List Int} {seen : List Nat} {i : Nat} {k : Int} (hn : ks.Nodup) (hi : ks[i]? = some k) : remK ks (seen ++ [i]) = (remK ks seen).filter (· ≠ k) := by
  unfold remK
  rw [List.filter_map, List.filter_filter]
  congr 1
  apply List.filter_congr
  rintro ⟨x, j⟩ hx
  have hj : ks[j]? = some x := by simpa using List.mem_zipIdx_iff_getElem?.1 hx
  have : decide (x ≠ k) = !decide (j = i) := by
    by_cases e : j = i
    · subst e; rw [hi] at hj; cases hj; simp
    · have : x ≠ k := by
        rintro rfl
        obtain ⟨p1, e1⟩ := List.getElem?_eq_some_iff.1 hi
        obtain ⟨p2, e2⟩ := List.getElem?_eq_some_iff.1 hj
        exact e ((List.getElem_inj hn).1 (by rw [e1, e2]))
      simp [e, this]
  simp only [Function.comp, List.contains_append, Bool.not_or, this]
  rw [Bool.and_comm]
  congr 1
  simp only [List.contains_cons, List.contains_nil, Bool.or_false]
  by_cases e : j = i <;> simp [e]
section
variable {P : Program} {L : Slots} {w : World} {dst : Option Nat} {ty : TypeId} {pos : String} {af : Array Edge} {gu : Option (Nat × Bool)} {x y : Operand} {t K E : TypeId} {b m : Nat} {ks rem : List Int} {k : Int}
/-- a map type's facts: map[K]bool, K an int -/
structure MpT (P : Program) (t K E : TypeId) : Prop where
  und : P.underlying t = some (.map K E)
  key : P.underlying K = some (.int .i64)
  zero : ∀ w, (zeroValue E).run P w = .ok (.bool false) w
theorem ev_makeMap : EV P L ⟨dst, .makeMap t none, ty, pos, af, gu⟩ w fun v' w' => ∃ b, v' = .map (some b) ∧ w.heap.size ≤ b ∧ Mo w' b [] ∧ Gr w w' := fun ρ hρ => by
  refine .val (.map (some w.heap.size)) (w.alloc (.map #[] 0)) (by simp [execOp, Instr.makeMap, go_sem]) ⟨_, rfl, Nat.le_refl _, ⟨List.nodup_nil, heap_alloc_new w _⟩, (Below.refl _ _).alloc (Nat.le_refl _) _⟩
theorem findNow_ks (k : Int) : ∀ (ks : List Int) (o i : Nat), Instr.findNow (.int .i64) (.int .i64 k) ((ks.zipIdx o).map fun x => (⟨.int .i64 x.1, .bool true, x.2⟩ : MapEntry)) i = some (if k ∈ ks then some (i + ks.idxOf k, .bool true) else none)
  | [], o, i => by simp [Instr.findNow]
  | a :: ks, o, i => by
    rw [List.zipIdx_cons, List.map_cons]
    simp only [Instr.findNow, Instr.sameNow, if_true]
    by_cases h : k = a
    · subst h; simp
    · have hb : (k == a) = false := by simpa using h
      have hb2 : (a == k) = false := by simpa using fun e => h e.symm
      rw [hb]
      simp only
      rw [findNow_ks k ks (o + 1) (i + 1)]
      simp only [List.mem_cons, h, false_or, List.idxOf_cons, hb2, cond_false]
      congr 1
      split
      · congr 2; omega
      · rfl
theorem checkKey_int (e : Bool) (n : Nat) (hk : P.underlying K = some (.int .i64)) : (Instr.checkKey e (n + 1) K (.int .i64 k)).run P w = .ok () w := by
  unfold Instr.checkKey
  simp only [Sem.run_bind, run_underlying hk, Result.andThen]
  rfl
theorem vv_lookup (hm : MpT P t K E) (hx : ev L x = some (.map (some b))) (hy : ev L y = some (.int .i64 k)) (hb : Mo w b ks) : VV P L ⟨dst, .lookup t x y false, ty, pos, af, gu⟩ w (.bool (decide (k ∈ ks))) := fun ρ hρ => by
  refine run_v ?_
  rw [hρ _ _ hx, hρ _ _ hy]
  have hck : ∀ e, (Instr.checkKey e 10000 K (.int .i64 k)).run P w = .ok () w := fun e => checkKey_int e 9999 hm.key
  have hf : Instr.findNow (.int .i64) (.int .i64 k) (mpE ks) 0 = _ := findNow_ks k ks 0 0
  unfold Instr.lookup
  simp only [Sem.run_bind, run_underlying hm.und, Result.andThen, MapKept.run_getObj_map hb.row, Sem.run_pure, hck]
  unfold Instr.findKey
  simp only [Sem.run_bind, run_underlying hm.key, Result.andThen]
  rw [hf]
  by_cases h : k ∈ ks
  · simp [h]
  · simp [h, hm.zero w]
theorem mpE_snoc (ks : List Int) (k : Int) : mpE (ks ++ [k]) = mpE ks ++ [⟨.int .i64 k, .bool true, ks.length⟩] := by
  unfold mpE; rw [List.zipIdx_append, List.map_append]; simp
theorem ev_mapUpd (hm : MpT P t K E) {z : Operand} (hx : ev L x = some (.map (some b))) (hy : ev L y = some (.int .i64 k)) (hz : ev L z = some (.bool true)) (hb : Mo w b ks) : EV P L ⟨dst, .mapUpdate t x y z, ty, pos, af, gu⟩ w fun _ w' => Mo w' b (insS ks k) ∧ Md b w w' := fun ρ hρ => by
  have hck : (Instr.checkKey false 10000 K (.int .i64 k)).run P w = .ok () w := checkKey_int false 9999 hm.key
  have hf : Instr.findNow (.int .i64) (.int .i64 k) (mpE ks) 0 = _ := findNow_ks k ks 0 0
  have hset : ∀ o : Obj, (setObj b o).run P w = .ok () (w.putObj b o) := fun o => by
    simp only [setObj, Sem.run, hb.row]; rfl
  have key : ∃ o : Obj, (Instr.mapUpdate t (.map (some b)) (.int .i64 k) (.bool true)).run P w = .ok () (w.putObj b o) ∧ o = .map (mpE (insS ks k)).toArray (insS ks k).length := by
    unfold Instr.mapUpdate
    simp only [Sem.run_bind, run_underlying hm.und, Result.andThen, MapKept.run_getObj_map hb.row, hck]
    unfold Instr.findKey
    simp only [Sem.run_bind, run_underlying hm.key, Result.andThen]
    rw [hf]
    by_cases h : k ∈ ks
    · rw [if_pos h]
      simp only [Sem.run_pure, Nat.zero_add, Instr.keyThatStays]
      have hi : ks.idxOf k < ks.length := List.idxOf_lt_length_of_mem h
      have hg : (mpE ks).toArray[ks.idxOf k]? = some ⟨.int .i64 k, .bool true, ks.idxOf k⟩ := by
        simp [mpE, hi]
      rw [hg]
      simp only [Option.map_some, Option.getD_some, Instr.sameBits, beq_self_eq_true, Bool.and_self, if_true, Sem.run_bind, Sem.run_pure, Result.andThen, hset, insS, if_pos h]
      refine ⟨_, rfl, ?_⟩
      congr 1
      apply Array.ext_getElem?
      intro j
      rw [Array.getElem?_modify]
      by_cases hj : ks.idxOf k = j
      · subst hj; rw [if_pos rfl, hg]; rfl
      · rw [if_neg hj]
    · rw [if_neg h]
      simp only [Sem.run_pure, hset, insS, if_neg h]
      refine ⟨_, rfl, ?_⟩
      rw [mpE_snoc]; simp
  obtain ⟨o, h1, rfl⟩ := key
  refine .skip _ ?_ ⟨⟨insS_nd hb.nd, World.putObj_heap_same hb.lt⟩, Md.put b _⟩
  simp [execOp, hρ _ _ hx, hρ _ _ hy, hρ _ _ hz, h1]
theorem ev_rangeM (hm : MpT P t K E) (hx : ev L x = some (.map (some m))) (hb : Mo w m ks) : EV P L ⟨dst, .range t x, ty, pos, af, gu⟩ w fun v' w' => ∃ b, v' = .pointer (some ⟨b, 0, none⟩) ∧ w.heap.size ≤ b ∧ Mi w' b m ks ks ∧ Gr w w' := fun ρ hρ => by
  have h := run_range_map (P := P) w t K E m _ _ hm.und hb.row
  refine .val _ _ (run_v (by rw [hρ _ _ hx]; exact h)) ⟨_, rfl, Nat.le_refl _, ⟨[], heap_alloc_new w _, (remK_nil ks).symm⟩, (Below.refl _ _).alloc (Nat.le_refl _) _⟩
theorem ev_nextM (hx : ev L x = some (.pointer (some ⟨b, 0, none⟩))) (hb : Mo w m ks) (hi : Mi w b m ks rem) : EV P L ⟨dst, .next x false, ty, pos, af, gu⟩ w fun v' w' =>
    (v' = .tuple [.bool false].toArray ∧ rem = [] ∧ Gr w w') ∨ (∃ k, k ∈ rem ∧ v' = .tuple [.bool true, .int .i64 k, .bool true].toArray ∧ Mk w' b m ks (rem.filter (· ≠ k)) k ∧ Md b w w') := fun ρ hρ => by
  obtain ⟨seen, h1, rfl⟩ := hi
  have hold : ∀ e ∈ (mpE ks).toArray.toList, e.born < ks.length := by
    intro e he
    obtain ⟨⟨a, j⟩, hj, rfl⟩ := List.mem_map.1 he
    have := List.mem_zipIdx_iff_getElem?.1 hj
    exact (List.getElem?_eq_some_iff.1 (by simpa using this)).1
  have hrun : ∀ (r : Result Value), (Instr.next (.pointer (some ⟨b, 0, none⟩)) false ty).run P w = r → (execOp ρ ⟨dst, .next x false, ty, pos, af, gu⟩).run P w = r.andThen fun v w' => .ok (.value v) w' := fun r hr => by
    simp only [execOp, hρ _ _ hx]
    rw [← hr]
    simp [Sem.run_bind]
  have hL : (Array.filter (fun e => !seen.toArray.contains e.born) (mpE ks).toArray).toList = (ks.zipIdx.filter fun x => !seen.contains x.2).map fun x => (⟨.int .i64 x.1, .bool true, x.2⟩ : MapEntry) := by
    simp [mpE, List.filter_map, Function.comp_def]
  have hmem : ∀ e ∈ (Array.filter (fun e => !seen.toArray.contains e.born) (mpE ks).toArray).toList, e.born < ks.length := fun e he => hold e (by simp at he ⊢; exact he.1)
  have hn : (Instr.next (.pointer (some ⟨b, 0, none⟩)) false ty).run P w = (Instr.next (.pointer (some ⟨b, 0, none⟩)) false ty).run P w := rfl
  conv at hn => rhs; simp only [Instr.next, getObj, Sem.run_bind, Sem.run, h1, hb.row, Result.andThen, next_test_false seen.toArray (mpE ks).toArray ks.length ks.length hold (Nat.le_refl _), Bool.false_eq_true, if_false]
  generalize Array.filter (fun e => !seen.toArray.contains e.born) (mpE ks).toArray = A at hL hmem hn
  have e1 : A.filter (fun x => decide (x.born < ks.length)) = A := Array.filter_eq_self.2 (fun x hx => by simpa using hmem x (by simpa using hx))
  have e2 : A.filter (fun x => decide (x.born ≥ ks.length)) = #[] := by
    rw [Array.filter_eq_empty_iff]
    intro x hx
    have := hmem x (by simpa using hx)
    simp; omega
  simp only [e1, e2, Array.append_empty] at hn
  by_cases h0 : A.size = 0
  · have hA : A = #[] := Array.eq_empty_of_size_eq_zero h0
    subst hA
    have h2 := hrun _ hn
    refine .val (.tuple [.bool false].toArray) w ?_ (.inl ⟨rfl, ?_, Gr.refl w⟩)
    · rw [h2]; simp [choose, Sem.run, Question.forced, Result.andThen]
    · have : (ks.zipIdx.filter fun x => !seen.contains x.2) = [] := by simpa using hL.symm
      unfold remK; rw [this]; rfl
  · have hne : A.isEmpty = false := by simp [Array.isEmpty, h0]
    simp only [hne, Bool.false_eq_true, if_false, Array.empty_append, Array.size_map] at hn
    have hch : ∃ (j : Nat) (w1 : World), j < A.size ∧ (w1 = w ∨ w1 = w.drew) ∧ (choose (Question.mapNext A.size)).run P w = .ok j w1 := by
      by_cases hf : A.size ≤ 1
      · exact ⟨0, w, by omega, .inl rfl, by simp [choose, Sem.run, Question.forced, hf]⟩
      · exact ⟨_, w.drew, Nat.mod_lt _ (by omega), .inr rfl, by
          simp only [choose, Sem.run, Question.forced, decide_eq_true_eq, hf, if_false, Question.cut]; rfl⟩
    obtain ⟨j, w1, hj, hw1, hc⟩ := hch
    have hw1h : w1.heap = w.heap := by rcases hw1 with rfl | rfl <;> rfl
    have hset : ∀ o : Obj, (setObj b o).run P w1 = .ok () (w1.putObj b o) := fun o => by
      have : w1.heap[b]? = some (.mapIter (some m) ks.length seen.toArray ks.length) := by rw [hw1h]; exact h1
      simp only [setObj, Sem.run, this]; rfl
    simp only [hc, Array.getElem?_map, Array.getElem?_eq_getElem hj, Option.map_some, hset, Sem.run_bind, Result.andThen] at hn
    have hAj : A[j] ∈ A.toList := by simp
    rw [hL] at hAj
    obtain ⟨⟨k, i⟩, hki, hkj⟩ := List.mem_map.1 hAj
    have hki' := List.mem_filter.1 hki
    have hi : ks[i]? = some k := by simpa using List.mem_zipIdx_iff_getElem?.1 hki'.1
    rw [← hkj] at hn
    have h2 := hrun _ hn
    have hmd : Md b w (w1.putObj b (.mapIter (some m) ks.length (seen.toArray.push i) ks.length)) := by
      have : Md b w1 (w1.putObj b (.mapIter (some m) ks.length (seen.toArray.push i) ks.length)) := Md.put b _
      rcases hw1 with rfl | rfl
      · exact this
      · exact ⟨this.os, this.tape, this.output, this.size, this.block⟩
    refine .val (.tuple [.bool true, .int .i64 k, .bool true].toArray) _ (by rw [h2]; rfl) (.inr ⟨k, ?_, rfl, ⟨seen, i, ?_, ?_, hi⟩, hmd⟩)
    · exact List.mem_map.2 ⟨(k, i), hki, rfl⟩
    · have hbs : b < w1.heap.size := by rw [hw1h]; exact hlt h1
      have := World.putObj_heap_same (w := w1) (o := .mapIter (some m) ks.length (seen.toArray.push i) ks.length) hbs
      rw [this]; simp
    · exact (remK_snoc hb.nd hi).symm
theorem vv_entryM (hx : ev L x = some (.pointer (some ⟨b, 0, none⟩))) (hb : Mo w m ks) (hi : Mk w b m ks rem k) : VV P L ⟨dst, .entry x, ty, pos, af, gu⟩ w (.tuple [.int .i64 k, .bool true].toArray) := fun ρ hρ => by
  obtain ⟨seen, i, h1, _, h3⟩ := hi
  refine run_v ?_
  rw [hρ _ _ hx]
  have hf : (mpE ks).toArray.find? (fun e => e.born == i) = some ⟨.int .i64 k, .bool true, i⟩ := by
    rw [← Array.find?_toList]
    have hgen : ∀ (ks : List Int) (o i : Nat), ks[i]? = some k → ((ks.zipIdx o).map fun x => (⟨.int .i64 x.1, .bool true, x.2⟩ : MapEntry)).find? (fun e => e.born == o + i) = some ⟨.int .i64 k, .bool true, o + i⟩ := by
      intro ks
      induction ks with
      | nil => intro o i h; simp at h
      | cons a ks ih =>
        intro o i h
        rw [List.zipIdx_cons, List.map_cons, List.find?_cons]
        cases i with
        | zero => simp at h; subst h; simp
        | succ i =>
          have hne : (o == o + (i + 1)) = false := by simp
          rw [hne]
          have := ih (o + 1) i (by simpa using h)
          rw [show o + 1 + i = o + (i + 1) from by omega] at this
          exact this
    have := hgen ks 0 i h3
    rw [Nat.zero_add] at this; exact this
  simp [Instr.entry, getObj, Sem.run, h1, hb.row, hf]
end
end Go.Sx
