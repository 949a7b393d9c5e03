/- SX: the operations, one law each. -/
import Derived.Test.YtjdffpglgkefmaaSxW
import Derived.Laws.Cells
set_option linter.unusedVariables false
set_option linter.unusedSimpArgs false
namespace Go.Sx
open Go Go.RowKit

/-! ### types -/
def One (P : Program) (t : TypeId) : Prop := ∀ w, (isAgg t).run P w = .ok false w ∧ (sizeOf t).run P w = .ok 1 w
def Agg (P : Program) (t : TypeId) (n : Nat) : Prop := ∀ w, (isAgg t).run P w = .ok true w ∧ (sizeOf t).run P w = .ok n w
def Siz (P : Program) (t : TypeId) (n : Nat) : Prop := ∀ w, (sizeOf t).run P w = .ok n w
theorem One.siz {P : Program} {t : TypeId} (h : One P t) : Siz P t 1 := fun w => (h w).2
theorem Agg.siz {P : Program} {t : TypeId} {n : Nat} (h : Agg P t n) : Siz P t n := fun w => (h w).2
def ZV (P : Program) (t : TypeId) (v : Value) : Prop := ∀ w, (zeroValue t).run P w = .ok v w
def FA (P : Program) (s f k : Nat) : Prop := ∀ b off w, (Instr.fieldAt s (.pointer (some ⟨b, off, none⟩)) f).run P w = .ok (.pointer (some ⟨b, off + k, none⟩)) w
def En (P : Program) (f : Nat) : Prop := ∀ args w, (callFunc f args).run P w = .ok (.enter f args) w
/-- the field f of a struct of type s lies at offset k and is one cell ¦ is m cells -/
def F1 (P : Program) (s f k : Nat) : Prop := ∀ (cs : Array Value) w v, cs[k]? = some v → (Instr.field s (.agg cs) f).run P w = .ok v w
def FM (P : Program) (s f k m : Nat) : Prop := ∀ (cs : Array Value) w, (Instr.field s (.agg cs) f).run P w = .ok (.agg (cs.extract k (k + m))) w

section
variable {P : Program} {L : Slots} {w : World} {dst : Option Nat} {ty : TypeId} {pos : String} {af : Array Edge} {gu : Option (Nat × Bool)}

theorem run_v {s : Sem Value} {w' : World} {v : Value} (h : s.run P w = .ok v w') : (do pure (Next.value (← s)) : Sem Next).run P w = .ok (.value v) w' := by
  show (s.bind _).run P w = _
  rw [Sem.run_bind', h]; rfl
theorem run_u {s : Sem Unit} {w' : World} (h : s.run P w = .ok () w') : (do s; pure Next.skip : Sem Next).run P w = .ok .skip w' := by
  show (s.bind _).run P w = _
  rw [Sem.run_bind', h]; rfl
/-! ### copies -/
theorem vv_move {x : Operand} {v : Value} (hx : ev L x = some v) : VV P L ⟨dst, .move x, ty, pos, af, gu⟩ w v := fun ρ hρ => by simp [execOp, hρ _ _ hx]
theorem vv_assign {x : Operand} {v : Value} (hx : ev L x = some v) : VV P L ⟨dst, .assign x, ty, pos, af, gu⟩ w v := fun ρ hρ => by simp [execOp, hρ _ _ hx]
theorem vv_pickT {c a b : Operand} {v : Value} (hc : ev L c = some (.bool true)) (ha : ev L a = some v) : VV P L ⟨dst, .pick c a b, ty, pos, af, gu⟩ w v := fun ρ hρ => by
  simp [execOp, hρ _ _ hc, hρ _ _ ha, asBool]
theorem vv_pickF {c a b : Operand} {v : Value} (hc : ev L c = some (.bool false)) (hb : ev L b = some v) : VV P L ⟨dst, .pick c a b, ty, pos, af, gu⟩ w v := fun ρ hρ => by
  simp [execOp, hρ _ _ hc, hρ _ _ hb, asBool]

/-! ### integers -/
variable {x y : Operand} {t u : TypeId} {k : IntKind} {a b : Int}
theorem vv_add (hx : ev L x = some (.int k a)) (hy : ev L y = some (.int k b)) : VV P L ⟨dst, .binOp .add t x y u, ty, pos, af, gu⟩ w (.int k (k.wrap (a + b))) := fun ρ hρ => by
  simp [execOp, hρ _ _ hx, hρ _ _ hy, go_sem, Op.intArith]
theorem vv_sub (hx : ev L x = some (.int k a)) (hy : ev L y = some (.int k b)) : VV P L ⟨dst, .binOp .sub t x y u, ty, pos, af, gu⟩ w (.int k (k.wrap (a - b))) := fun ρ hρ => by
  simp [execOp, hρ _ _ hx, hρ _ _ hy, go_sem, Op.intArith]
theorem vv_mul (hx : ev L x = some (.int k a)) (hy : ev L y = some (.int k b)) : VV P L ⟨dst, .binOp .mul t x y u, ty, pos, af, gu⟩ w (.int k (k.wrap (a * b))) := fun ρ hρ => by
  simp [execOp, hρ _ _ hx, hρ _ _ hy, go_sem, Op.intArith]
theorem wrap64_in {n : Int} (h1 : -9223372036854775808 ≤ n) (h2 : n ≤ 9223372036854775807) : IntKind.i64.wrap n = n := IntWalk.i64_in n (by omega)
theorem vv_add64 (hx : ev L x = some (.int .i64 a)) (hy : ev L y = some (.int .i64 b)) (h1 : -9223372036854775808 ≤ a + b) (h2 : a + b ≤ 9223372036854775807) : VV P L ⟨dst, .binOp .add t x y u, ty, pos, af, gu⟩ w (.int .i64 (a + b)) := by
  have := vv_add (P := P) (w := w) (dst := dst) (ty := ty) (pos := pos) (af := af) (gu := gu) (t := t) (u := u) hx hy; rwa [wrap64_in h1 h2] at this
theorem vv_sub64 (hx : ev L x = some (.int .i64 a)) (hy : ev L y = some (.int .i64 b)) (h1 : -9223372036854775808 ≤ a - b) (h2 : a - b ≤ 9223372036854775807) : VV P L ⟨dst, .binOp .sub t x y u, ty, pos, af, gu⟩ w (.int .i64 (a - b)) := by
  have := vv_sub (P := P) (w := w) (dst := dst) (ty := ty) (pos := pos) (af := af) (gu := gu) (t := t) (u := u) hx hy; rwa [wrap64_in h1 h2] at this
theorem vv_mul64 (hx : ev L x = some (.int .i64 a)) (hy : ev L y = some (.int .i64 b)) (h1 : -9223372036854775808 ≤ a * b) (h2 : a * b ≤ 9223372036854775807) : VV P L ⟨dst, .binOp .mul t x y u, ty, pos, af, gu⟩ w (.int .i64 (a * b)) := by
  have := vv_mul (P := P) (w := w) (dst := dst) (ty := ty) (pos := pos) (af := af) (gu := gu) (t := t) (u := u) hx hy; rwa [wrap64_in h1 h2] at this
theorem vv_bits {op : BinOp} (hop : op = .and ∨ op = .or ∨ op = .xor ∨ op = .andNot) (hx : ev L x = some (.int k a)) (hy : ev L y = some (.int k b)) : VV P L ⟨dst, .binOp op t x y u, ty, pos, af, gu⟩ w (.int k (bits op k a b)) := fun ρ hρ => by
  rcases hop with rfl | rfl | rfl | rfl <;> simp [execOp, hρ _ _ hx, hρ _ _ hy, go_sem]
theorem vv_shl {yk : IntKind} (hx : ev L x = some (.int k a)) (hy : ev L y = some (.int yk b)) (h0 : 0 ≤ b) : VV P L ⟨dst, .binOp .shl t x y u, ty, pos, af, gu⟩ w (.int k (k.wrap (a * 2 ^ min b.toNat k.bits))) := fun ρ hρ => by
  simp [execOp, hρ _ _ hx, hρ _ _ hy, go_sem, h0]
theorem vv_shr {yk : IntKind} (hx : ev L x = some (.int k a)) (hy : ev L y = some (.int yk b)) (h0 : 0 ≤ b) : VV P L ⟨dst, .binOp .shr t x y u, ty, pos, af, gu⟩ w (.int k (a / 2 ^ min b.toNat k.bits)) := fun ρ hρ => by
  simp [execOp, hρ _ _ hx, hρ _ _ hy, go_sem, h0]
theorem vv_eql (hx : ev L x = some (.int k a)) (hy : ev L y = some (.int k b)) : VV P L ⟨dst, .binOp .eql t x y u, ty, pos, af, gu⟩ w (.bool (decide (a = b))) := fun ρ hρ => by
  simp [execOp, hρ _ _ hx, hρ _ _ hy, go_sem]; rfl
theorem vv_neq (hx : ev L x = some (.int k a)) (hy : ev L y = some (.int k b)) : VV P L ⟨dst, .binOp .neq t x y u, ty, pos, af, gu⟩ w (.bool (decide (a ≠ b))) := fun ρ hρ => by
  simp [execOp, hρ _ _ hx, hρ _ _ hy, go_sem]; rfl
theorem vv_lss (hx : ev L x = some (.int k a)) (hy : ev L y = some (.int k b)) : VV P L ⟨dst, .binOp .lss t x y u, ty, pos, af, gu⟩ w (.bool (decide (a < b))) := fun ρ hρ => by
  simp [execOp, hρ _ _ hx, hρ _ _ hy, go_sem]
theorem vv_leq (hx : ev L x = some (.int k a)) (hy : ev L y = some (.int k b)) : VV P L ⟨dst, .binOp .leq t x y u, ty, pos, af, gu⟩ w (.bool (decide (a ≤ b))) := fun ρ hρ => by
  simp [execOp, hρ _ _ hx, hρ _ _ hy, go_sem]
theorem vv_gtr (hx : ev L x = some (.int k a)) (hy : ev L y = some (.int k b)) : VV P L ⟨dst, .binOp .gtr t x y u, ty, pos, af, gu⟩ w (.bool (decide (b < a))) := fun ρ hρ => by
  simp [execOp, hρ _ _ hx, hρ _ _ hy, go_sem]
theorem vv_geq (hx : ev L x = some (.int k a)) (hy : ev L y = some (.int k b)) : VV P L ⟨dst, .binOp .geq t x y u, ty, pos, af, gu⟩ w (.bool (decide (b ≤ a))) := fun ρ hρ => by
  simp [execOp, hρ _ _ hx, hρ _ _ hy, go_sem]
theorem vv_not {c : Bool} (hx : ev L x = some (.bool c)) : VV P L ⟨dst, .unOp .not t x, ty, pos, af, gu⟩ w (.bool (!c)) := fun ρ hρ => by
  simp [execOp, hρ _ _ hx, go_sem]
/-- a conversion between integer types -/
def CV (P : Program) (s d : TypeId) (k : IntKind) : Prop := ∀ q n w, (convert s d (.int q n)).run P w = .ok (.int k (k.wrap n)) w
theorem vv_conv {s d : TypeId} {q : IntKind} (hc : CV P s d k) (hx : ev L x = some (.int q a)) : VV P L ⟨dst, .convert s d x, ty, pos, af, gu⟩ w (.int k (k.wrap a)) := fun ρ hρ => by
  simp [execOp, hρ _ _ hx, hc q a w, go_sem]
theorem vv_conv64 {s d : TypeId} {q : IntKind} (hc : CV P s d .i64) (hx : ev L x = some (.int q a)) (h1 : -9223372036854775808 ≤ a) (h2 : a ≤ 9223372036854775807) : VV P L ⟨dst, .convert s d x, ty, pos, af, gu⟩ w (.int .i64 a) := by
  have := vv_conv (P := P) (w := w) (dst := dst) (ty := ty) (pos := pos) (af := af) (gu := gu) hc hx; rwa [wrap64_in h1 h2] at this

/-! ### addresses, fields, tuples -/
theorem vv_fieldAddr {s f q b' off : Nat} (hf : FA P s f q) (hx : ev L x = some (.pointer (some ⟨b', off, none⟩))) : VV P L ⟨dst, .fieldAddr s x f, ty, pos, af, gu⟩ w (.pointer (some ⟨b', off + q, none⟩)) := fun ρ hρ => run_v (by rw [hρ _ _ hx]; exact hf b' off w)
theorem vv_indexAddr {len b' off sz : Nat} {e : TypeId} {i : Int} (hu : P.underlying t = some (.array len e)) (hs : Siz P e sz) (hx : ev L x = some (.pointer (some ⟨b', off, none⟩))) (hy : ev L y = some (.int k i)) (h0 : 0 ≤ i) (h1 : i < len) :
    VV P L ⟨dst, .indexAddr t x y, ty, pos, af, gu⟩ w (.pointer (some ⟨b', off + i.toNat * sz, none⟩)) := fun ρ hρ => by
  simp [execOp, hρ _ _ hx, hρ _ _ hy, Instr.indexAt, run_underlying hu, Instr.sureAddr, asIntOf, hs w, h0, h1, go_sem]
theorem vv_indexAddrS {len cap b' off sz : Nat} {e : TypeId} {i : Int} (hu : P.underlying t = some (.slice e)) (hs : Siz P e sz) (hx : ev L x = some (.slice (some ⟨b', off, none⟩) len cap)) (hy : ev L y = some (.int k i)) (h0 : 0 ≤ i) (h1 : i < len) :
    VV P L ⟨dst, .indexAddr t x y, ty, pos, af, gu⟩ w (.pointer (some ⟨b', off + i.toNat * sz, none⟩)) := fun ρ hρ => by
  simp [execOp, hρ _ _ hx, hρ _ _ hy, Instr.indexAt, run_underlying hu, asIntOf, hs w, h0, h1, go_sem]
theorem vv_extract {vs : List Value} {q : Nat} {v : Value} (hx : ev L x = some (.tuple vs.toArray)) (hq : vs[q]? = some v) : VV P L ⟨dst, .extract x q, ty, pos, af, gu⟩ w v := fun ρ hρ => by
  simp [execOp, hρ _ _ hx, Instr.extract, hq, go_sem]
theorem vv_field1 {s f q : Nat} {cs : List Value} {v : Value} (hf : F1 P s f q) (hx : ev L x = some (.agg cs.toArray)) (hv : cs[q]? = some v) : VV P L ⟨dst, .field s x f, ty, pos, af, gu⟩ w v := fun ρ hρ => by
  have := hf cs.toArray w v (by simpa using hv)
  simp [execOp, hρ _ _ hx, this, go_sem]
theorem vv_fieldM {s f q m : Nat} {cs vs : List Value} (hf : FM P s f q m) (hx : ev L x = some (.agg cs.toArray)) (hv : (cs.drop q).take m = vs) : VV P L ⟨dst, .field s x f, ty, pos, af, gu⟩ w (.agg vs.toArray) := fun ρ hρ => by
  have := hf cs.toArray w
  have e : cs.toArray.extract q (q + m) = vs.toArray := by
    rw [← hv]; simp [List.extract_toArray, List.extract_eq_take_drop]
  rw [e] at this
  simp [execOp, hρ _ _ hx, this, go_sem]
theorem vv_makeFunc {f : Nat} {fs cap : Array Operand} {vf vc : List Value} (h1 : evs L fs.toList = some vf) (h2 : evs L cap.toList = some vc) : VV P L ⟨dst, .makeFunc (.func f) fs cap, ty, pos, af, gu⟩ w (.func (.func f) vf.toArray vc.toArray) := fun ρ hρ => by
  simp [execOp, hρ.mapA h1, hρ.mapA h2, Instr.makeFunc, go_sem]

/-! ### loads -/
theorem vv_load1 {b' off : Nat} {tb : TypeId} {cs : List Value} {v : Value} (h1 : One P t) (hx : ev L x = some (.pointer (some ⟨b', off, none⟩))) (hb : Bx w b' tb cs) (hv : cs[off]? = some v) : VV P L ⟨dst, .load t x, ty, pos, af, gu⟩ w v := fun ρ hρ => by
  have hc : w.cell? ⟨b', off, none⟩ = some v := by rw [hb.cell]; exact hv
  simp [execOp, hρ _ _ hx, Instr.loadAt, Instr.sureAddr, loadVar, (h1 w).1, hc, go_sem]
theorem vv_loadM {b' off m : Nat} {tb : TypeId} {cs vs : List Value} (h1 : Agg P t m) (hx : ev L x = some (.pointer (some ⟨b', off, none⟩))) (hb : Bx w b' tb cs) (hv : (cs.drop off).take m = vs) (hl : vs.length = m) : VV P L ⟨dst, .load t x, ty, pos, af, gu⟩ w (.agg vs.toArray) := fun ρ hρ => by
  have hc : (loadCells ⟨b', off, none⟩ vs.length).run P w = .ok vs.toArray w := run_loadCells_list w _ _ (fun j v hj => by
    rw [Addr.add_lit, hb.cell]
    have hjm : j < m := by rw [← hl]; exact (List.getElem?_eq_some_iff.1 hj).1
    rw [← hv, List.getElem?_take_of_lt hjm, List.getElem?_drop] at hj
    exact hj)
  rw [hl] at hc
  refine run_v ?_
  rw [hρ _ _ hx]
  simp [Instr.loadAt, Instr.sureAddr, loadVar, (h1 w).1, (h1 w).2, hc]

theorem vv_loadW {b' m : Nat} {tb : TypeId} {cs : List Value} (h1 : Agg P t m) (hx : ev L x = some (.pointer (some ⟨b', 0, none⟩))) (hb : Bx w b' tb cs) (hl : cs.length = m) : VV P L ⟨dst, .load t x, ty, pos, af, gu⟩ w (.agg cs.toArray) :=
  vv_loadM h1 hx hb (by rw [List.drop_zero, List.take_of_length_le (by omega)]) hl

/-! ### new blocks, stores -/
theorem ev_new {o : Oper} {v : Value} {cs : List Value} (hrun : ∀ ρ, Cons L ρ → (execOp ρ o).run P w = .ok (.value (.pointer (some ⟨w.heap.size, 0, none⟩))) (w.alloc (.cells v.cells t))) (hc : v.cells = cs.toArray) :
    EV P L o w fun v' w' => ∃ b, v' = .pointer (some ⟨b, 0, none⟩) ∧ w.heap.size ≤ b ∧ Bx w' b t cs ∧ Gr w w' := fun ρ hρ =>
  .val _ _ (hrun ρ hρ) ⟨w.heap.size, rfl, Nat.le_refl _, by unfold Bx; rw [hc]; exact heap_alloc_new w _, (Below.refl _ _).alloc (Nat.le_refl _) _⟩
theorem ev_box {v : Value} {cs : List Value} (hx : ev L x = some v) (hc : v.cells = cs.toArray) :
    EV P L ⟨dst, .box t x, ty, pos, af, gu⟩ w fun v' w' => ∃ b, v' = .pointer (some ⟨b, 0, none⟩) ∧ w.heap.size ≤ b ∧ Bx w' b t cs ∧ Gr w w' :=
  ev_new (v := v) (fun ρ hρ => by simp [execOp, hρ _ _ hx, Instr.box, newVar, newRow, go_sem]) hc
theorem ev_alloc {v : Value} {cs : List Value} (hz : ZV P t v) (hc : v.cells = cs.toArray) :
    EV P L ⟨dst, .alloc t, ty, pos, af, gu⟩ w fun v' w' => ∃ b, v' = .pointer (some ⟨b, 0, none⟩) ∧ w.heap.size ≤ b ∧ Bx w' b t cs ∧ Gr w w' :=
  ev_new (v := v) (fun ρ _ => by simp [execOp, Instr.alloc, hz w, newVar, newRow, go_sem]) hc
/-- cells from off on are turned into vs -/
def spl (cs : List Value) (off : Nat) (vs : List Value) : List Value := cs.take off ++ vs ++ cs.drop (off + vs.length)
theorem spl_nil (cs : List Value) (off : Nat) : spl cs off [] = cs := by simp [spl]
theorem spl_cons (cs : List Value) (off : Nat) (v : Value) (vs : List Value) (h : off + (v :: vs).length ≤ cs.length) : spl (cs.set off v) (off + 1) vs = spl cs off (v :: vs) := by
  simp only [List.length_cons] at h
  unfold spl
  have e1 : (cs.set off v).take (off + 1) = cs.take off ++ [v] := by
    rw [List.take_set, List.take_succ_eq_append_getElem (by omega), List.set_append_right _ _ (by simp; omega)]
    have : off - (cs.take off).length = 0 := by simp; omega
    rw [this]; rfl
  have e2 : (cs.set off v).drop (off + 1 + vs.length) = cs.drop (off + (v :: vs).length) := by
    rw [List.drop_set_of_lt (by omega)]; congr 1; simp; omega
  rw [e1, e2]; simp
theorem run_storeCells {b' off : Nat} {tb : TypeId} : ∀ (vs : List Value) (i : Nat) (w : World) (cs : List Value), (∀ v ∈ vs, v.oneCell' = true) → Bx w b' tb cs → off + i + vs.length ≤ cs.length →
    ∃ w', (storeCells ⟨b', off, none⟩ vs i).run P w = .ok () w' ∧ Bx w' b' tb (spl cs (off + i) vs) ∧ Md b' w w'
  | [], i, w, cs, _, hb, _ => ⟨w, rfl, by rw [spl_nil]; exact hb, Md.refl _ _⟩
  | v :: vs, i, w, cs, h1, hb, hl => by
    obtain ⟨hm, hb'⟩ := Md.of_setCell hb (off + i) v
    obtain ⟨w', hr, hb2, hm2⟩ := run_storeCells (off := off) vs (i + 1) _ _ (fun u hu => h1 u (List.mem_cons_of_mem _ hu)) hb' (by simp at hl ⊢; omega)
    refine ⟨w', ?_, ?_, hm.trans hm2⟩
    · unfold storeCells
      have hlt : off + i < cs.length := by simp at hl; omega
      have hc : w.cell? ⟨b', off + i, none⟩ = some cs[off + i] := by rw [hb.cell]; simp [hlt]
      have hfz : w.frozen? ⟨b', off + i, none⟩ = false := frozen_of_row w b' (off + i) _ tb hb
      have hs := run_store P w ⟨b', off + i, none⟩ v .plain (h1 v (by simp))
      rw [Addr.add_lit]
      simp only [Sem.run_bind, hs, hc, hfz]
      simpa [Result.andThen] using hr
    · have e : off + i + 1 = off + (i + 1) := by omega
      rw [← spl_cons cs (off + i) v vs (by simpa [Nat.add_assoc] using hl), e]; exact hb2
def oneB : Value → Bool
  | .agg _ => false
  | .tuple _ => false
  | _ => true
def ones : List Value → Bool
  | [] => true
  | v :: r => bif oneB v then ones r else false
theorem ones_spec : ∀ {vs : List Value}, ones vs = true → ∀ v ∈ vs, v.oneCell' = true
  | [], _, v, hv => by cases hv
  | u :: r, h, v, hv => by
    unfold ones at h
    cases e : oneB u with
    | false => rw [e] at h; cases h
    | true =>
      rw [e] at h
      rcases List.mem_cons.1 hv with rfl | hv
      · cases v <;> first | rfl | (cases e)
      · exact ones_spec h v hv
theorem ev_storeM {b' off m : Nat} {tb : TypeId} {v : Value} {cs vs : List Value} (hs : Siz P t m) (hx : ev L x = some (.pointer (some ⟨b', off, none⟩))) (hy : ev L y = some v) (hc : v.cells = vs.toArray) (hm : vs.length = m) (h1 : ones vs = true) (hb : Bx w b' tb cs) (hl : Nat.ble (off + m) cs.length = true) :
    EV P L ⟨dst, .store t x y, ty, pos, af, gu⟩ w fun _ w' => Bx w' b' tb (spl cs off vs) ∧ Md b' w w' := fun ρ hρ => by
  have hl' := Nat.le_of_ble_eq_true hl
  obtain ⟨w', hr, h2, h3⟩ := run_storeCells (P := P) (off := off) vs 0 w cs (ones_spec h1) hb (by simp; omega)
  refine .skip w' (run_u ?_) ⟨h2, h3⟩
  rw [hρ _ _ hx, hρ _ _ hy]
  simp [Instr.storeAt, Instr.sureAddr, storeVar, hs w, hc, hm, hr]
theorem ev_storeW {b' m : Nat} {tb : TypeId} {v : Value} {cs vs : List Value} (hs : Siz P t m) (hx : ev L x = some (.pointer (some ⟨b', 0, none⟩))) (hy : ev L y = some v) (hc : v.cells = vs.toArray) (hm : vs.length = m) (h1 : ones vs = true) (hb : Bx w b' tb cs) (hl : cs.length = m) :
    EV P L ⟨dst, .store t x y, ty, pos, af, gu⟩ w fun _ w' => Bx w' b' tb vs ∧ Md b' w w' := by
  refine (ev_storeM hs hx hy hc hm h1 hb (by simp [hl])).mono ?_
  rintro _ w' ⟨h2, h3⟩
  have : spl cs 0 vs = vs := by simp [spl, hm, hl]
  rw [this] at h2
  exact ⟨h2, h3⟩
theorem ev_store1 {b' off : Nat} {tb : TypeId} {v : Value} {cs : List Value} (hs : Siz P t 1) (hx : ev L x = some (.pointer (some ⟨b', off, none⟩))) (hy : ev L y = some v) (h1 : oneB v = true) (hb : Bx w b' tb cs) (hl : off < cs.length) :
    EV P L ⟨dst, .store t x y, ty, pos, af, gu⟩ w fun _ w' => Bx w' b' tb (cs.set off v) ∧ Md b' w w' := by
  have hc : v.cells = [v].toArray := by cases v <;> first | rfl | (cases h1)
  refine (ev_storeM (vs := [v]) hs hx hy hc rfl (by simp [ones, h1]) hb (by simp; omega)).mono ?_
  rintro _ w' ⟨h2, h3⟩
  refine ⟨?_, h3⟩
  have := spl_cons cs off v [] (by simp; omega)
  rw [spl_nil] at this
  rw [this]; exact h2

/-! ### structs and arrays built -/
/-- the parts laid into the zero value: offsets and sizes by number -/
def fillL (pl : Nat → Option (Nat × Nat)) : List Value → List (Nat × Value) → Option (List Value)
  | z, [] => some z
  | z, (i, v) :: r => match pl i with
    | none => none
    | some (off, size) => if v.cells.size = size ∧ off + size ≤ z.length then fillL pl (spl z off v.cells.toList) r else none
theorem foldl_set (off : Nat) : ∀ (vs : List Value) (k : Nat) (z : List Value), off + k + vs.length ≤ z.length →
    (vs.zipIdx k).foldl (fun (cs : Array Value) (x : Value × Nat) => cs.setIfInBounds (off + x.2) x.1) z.toArray = (spl z (off + k) vs).toArray
  | [], k, z, _ => by simp [spl_nil]
  | v :: vs, k, z, h => by
    simp only [List.zipIdx_cons, List.foldl_cons]
    have e : z.toArray.setIfInBounds (off + k) v = (z.set (off + k) v).toArray := by simp
    rw [e, foldl_set off vs (k + 1) (z.set (off + k) v) (by simp at h ⊢; omega)]
    have := spl_cons z (off + k) v vs (by simpa [Nat.add_assoc] using h)
    rw [← this, Nat.add_assoc]
theorem fill_of {pl : Nat → Option (Nat × Nat)} : ∀ (parts : List (Nat × Value)) (z cs : List Value), fillL pl z parts = some cs → Instr.fill pl z.toArray parts = some cs.toArray
  | [], z, cs, h => by simp [fillL] at h; subst h; rfl
  | (i, v) :: r, z, cs, h => by
    unfold fillL at h
    unfold Instr.fill
    split at h
    · cases h
    · rename_i off size e
      rw [e]
      by_cases hc : v.cells.size = size ∧ off + size ≤ z.length
      · rw [if_pos hc] at h
        have h1 : (v.cells.size ≠ size || off + v.cells.size > z.toArray.size) = false := by simp; omega
        simp only [h1, Bool.false_eq_true, if_false]
        have h2 : v.cells.zipIdx.foldl (fun (cs : Array Value) (x : Value × Nat) => cs.setIfInBounds (off + x.2) x.1) z.toArray = (spl z off v.cells.toList).toArray := by
          have := foldl_set off v.cells.toList 0 z (by simp; omega)
          rw [← Array.foldl_toList, Array.toList_zipIdx]
          simpa using this
        rw [h2]
        exact fill_of r _ cs h
      · rw [if_neg hc] at h; cases h
/-- a struct type's offsets and sizes, and its zero value -/
def BS (P : Program) (t : TypeId) (pl : Nat → Option (Nat × Nat)) (z : List Value) : Prop := ∀ (parts : Array (Nat × Value)) w cells, Instr.fill pl z.toArray parts.toList=some cells→(Instr.build t parts).run P w=
 (pure (.agg cells) : Sem Value).run P w
def evp (L : Slots) : List (Nat × Operand) → Option (List (Nat × Value))
  | [] => some []
  | (i, x) :: r => match ev L x, evp L r with
    | some v, some vs => some ((i, v) :: vs)
    | _, _ => none
theorem Cons.mapP {ρ : Operand → Value} (h : Cons L ρ) : ∀ {l : List (Nat × Operand)} {vs : List (Nat × Value)}, evp L l = some vs → l.map (fun x => (x.1, ρ x.2)) = vs
  | [], vs, e => by cases e; rfl
  | (i, x) :: r, vs, e => by
    unfold evp at e
    split at e
    · rename_i v vs' h1 h2
      cases e
      rw [List.map_cons, h _ _ h1, h.mapP h2]
    · cases e
theorem vv_build {pl : Nat → Option (Nat × Nat)} {z cs : List Value} {parts : Array (Nat × Operand)} {vs : List (Nat × Value)} (hb : BS P t pl z) (hp : evp L parts.toList = some vs) (hf : fillL pl z vs = some cs) :
    VV P L ⟨dst, .build t parts, ty, pos, af, gu⟩ w (.agg cs.toArray) := fun ρ hρ => by
  have e : (parts.map fun (x : Nat × Operand) => (x.1, ρ x.2)) = vs.toArray := by rw [← hρ.mapP hp, ← Array.toList_map]
  refine run_v ?_
  show (Instr.build t (parts.map fun (x : Nat × Operand) => (x.1, ρ x.2))).run P w = _
  rw [e,hb _ _ _ (fill_of vs z cs hf)]; rfl

/-! ### calls -/
theorem ev_call {f : Nat} {as : Array Operand} {at_ : Array TypeId} {vs : List Value} {R : Value → World → Prop} (hen : En P f) (hargs : evs L as.toList = some vs)
    (hc : Calls P f vs.toArray w fun e w' => ∃ v, e = .returned v ∧ R v w') : EV P L ⟨dst, .call { callee := .value (.func f), args := as, argTypes := at_ }, ty, pos, af, gu⟩ w R := fun ρ hρ => by
  refine .call f vs.toArray w ?_ hc
  have h0 : ρ (.func f) = .func (.func f) #[] #[] := hρ _ _ rfl
  simp [execOp, resolve, hρ.mapA hargs, h0, Deferred.ofValue, invoke, go_sem]
  exact hen _ _
theorem ev_callV {f : Nat} {fs cap : List Value} {as : Array Operand} {at_ : Array TypeId} {vs : List Value} {R : Value → World → Prop} (hen : En P f) (hx : ev L x = some (.func (.func f) fs.toArray cap.toArray)) (hargs : evs L as.toList = some vs)
    (hc : Calls P f (fs ++ vs ++ cap).toArray w fun e w' => ∃ v, e = .returned v ∧ R v w') : EV P L ⟨dst, .call { callee := .value x, args := as, argTypes := at_ }, ty, pos, af, gu⟩ w R := fun ρ hρ => by
  refine .call f (fs ++ vs ++ cap).toArray w ?_ hc
  simp [execOp, resolve, hρ.mapA hargs, hρ _ _ hx, Deferred.ofValue, invoke, go_sem]
  simpa [List.append_assoc] using hen (fs ++ vs ++ cap).toArray w
theorem vv_lenS {o' : Option Addr} {len cap : Nat} {e : TypeId} (hu : P.underlying t = some (.slice e)) (hx : ev L x = some (.slice o' len cap)) : VV P L ⟨dst, .call { callee := .builtin .len, args := #[x], argTypes := #[t] }, ty, pos, af, gu⟩ w (.int .i64 len) := fun ρ hρ => by
  simp [hρ _ _ hx, Builtin.len_, run_underlying hu, goInt, go_sem]
end

/-! ### results -/
section
variable {P : Program} {fn : Func} {L : Slots} {w : World}
theorem res_tmp {t : Nat} {v : Value} (h : fn.results = #[.tmp t]) (hv : lk t L = some v) : RES P fn L w v := fun n D a ha => by
  have := ha.get t v hv
  rw [results_tmp h, Array.getD_eq_getD_getElem?, this]; rfl
theorem res_cellW {t b m : Nat} {ty tb : TypeId} {cs : List Value} (h : fn.results = #[.cell t ty]) (h1 : Agg P ty m) (hv : lk t L = some (.pointer (some ⟨b, 0, none⟩))) (hb : Bx w b tb cs) (hl : cs.length = m) : RES P fn L w (.agg cs.toArray) := fun n D a ha => by
  have hc : (loadCells ⟨b, 0, none⟩ cs.length).run P w = .ok cs.toArray w := run_loadCells_list w _ _ (fun j v hj => by rw [Addr.add_lit, hb.cell, Nat.zero_add]; exact hj)
  rw [hl] at hc
  have := ha.get t _ hv
  simp [results, h, this, asAddr, loadVar, (h1 w).1, (h1 w).2, hc]
theorem res_none (h : fn.results = #[]) : RES P fn L w (.tuple #[]) := fun _ _ _ _ => results_none h _ _ _
theorem res_tmp2 {t u : Nat} {v v' : Value} (h : fn.results = #[.tmp t, .tmp u]) (hv : lk t L = some v) (hv' : lk u L = some v') : RES P fn L w (.tuple #[v, v']) := fun n D a ha => by
  rw [results_tmp2 h, Array.getD_eq_getD_getElem?, ha.get t v hv, Array.getD_eq_getD_getElem?, ha.get u v' hv']; rfl
end
end Go.Sx
