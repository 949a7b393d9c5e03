/- Scopes through which no jump goes; the greater of two numbers; slices asked for nil; a part of an owned slice taken out in place. -/
import Derived.Test.YtjdffpglgkefmaaGreatMirI
import Derived.Test.YtjdffpglgkefmaaGreatWe
import Derived.ControlIn
import Derived.Laws.CopyRow
import Derived.Laws.Slices
set_option linter.unusedVariables false
set_option linter.unusedSimpArgs false
namespace Go.Sx
open Go Go.RowKit

theorem ex_of {α : Type} (a : α) : ∃ x, x = a := ⟨a, rfl⟩
/-! ### scopes -/
section
variable {F : Fence} {n : Nat} {P : Program} {a : Act} {w : World} {Q : Exit → Act → World → Prop}
theorem stepR_scope {b : Frame} {k : List Item} {cs : List Frame} {c : Code} : step P (lone (b.atR a (.code (.scope c) :: k)) cs w) = .next (lone (b.atR a (.code c :: .inScope c :: k)) cs w) := step_lone_go (by simp [stepG, stepG.exec, Frame.atR])
theorem stepR_inScope {b : Frame} {k : List Item} {cs : List Frame} {c : Code} : step P (lone (b.atR a (.inScope c :: k)) cs w) = .next (lone (b.atR a k) cs w) := step_lone_go (by simp [stepG, stepG.exec, Frame.atR])
def noGo (Q : Exit → Act → World → Prop) : Exit → Act → World → Prop
  | .goto _, _, _ => False
  | e, a, w => Q e a w
theorem wpIn_scope {c : Code} (h : c.wpIn F n P (noGo Q) a w) : (Code.scope c).wpIn F n P Q a w := by
  intro b k cs hro hb hr
  have h0 : (lone (b.atR a (.code (.scope c) :: k)) cs w).fenced P F := fenced_calm hb hr rfl
  obtain ⟨e, a₁, w₁, hq, harr⟩ := h b (.inScope c :: k) cs hro hb hr
  cases e with
  | normal => exact ⟨.normal, a₁, w₁, hq, .head h0 stepR_scope (StepsIn.trans harr (.one (fenced_calm hb hr rfl) stepR_inScope))⟩
  | exit id' =>
    have hx : exitTo id' (.inScope c :: k) = exitTo id' k := by simp [exitTo]
    exact ⟨.exit id', a₁, w₁, hq, fun k' hk => .head h0 stepR_scope (harr.1 k' (by rw [hx]; exact hk)),
      fun hr' hk => let ⟨k₁, h1, h2⟩ := harr.2 hr' (by rw [hx]; exact hk); ⟨k₁, h1, .head h0 stepR_scope h2⟩⟩
  | goto l => exact hq.elim
  | ret => exact ⟨_, a₁, w₁, hq, .of_steps (.one h0 stepR_scope) harr⟩
  | panic ch => exact ⟨_, a₁, w₁, hq, .of_steps (.one h0 stepR_scope) harr⟩
  | outgrown => exact ⟨_, a₁, w₁, hq, .of_steps (.one h0 stepR_scope) harr⟩
end
def scopeQ (Q : Exit → List Deferred → Slots → World → Prop) : Exit → List Deferred → Slots → World → Prop
  | .goto _, _, _, _ => False
  | e, D, L, w => Q e D L w
section
variable {P : Program} {r : Option Nat} {n : Nat} {Q : Exit → List Deferred → Slots → World → Prop} {D : List Deferred} {L : Slots} {w : World}
theorem sw_scope {c : Code} (h : SW P r n c (scopeQ Q) D L w) : SW P r n (.scope c) Q D L w := fun a ha => wpIn_scope (wpIn_mono (h a ha) fun e a' w' hh => by
  cases e with
  | goto l => obtain ⟨_, _, _, h⟩ := hh; exact h.elim
  | normal => exact hh
  | exit id => exact hh
  | ret => exact hh
  | panic c => exact hh
  | outgrown => exact hh)
theorem scope_n (h : Q .normal D L w) : scopeQ Q .normal D L w := h
theorem scope_x {i : Nat} (h : Q (.exit i) D L w) : scopeQ Q (.exit i) D L w := h
theorem scope_r (h : Q .ret D L w) : scopeQ Q .ret D L w := h
end
/-! ### the greater, the lesser -/
section
variable {P : Program} {L : Slots} {w : World} {dst : Option Nat} {ty : TypeId} {pos : String} {af : Array Edge} {gu : Option (Nat × Bool)} {x y q : Operand} {t t2 t3 : TypeId} {a b c : Int} {k k2 k3 : IntKind}
theorem vv_maxK (hx : ev L x = some (.int k a)) (hy : ev L y = some (.int k2 b)) : VV P L ⟨dst, .call { callee := .builtin .max, args := #[x, y], argTypes := #[t, t2] }, ty, pos, af, gu⟩ w (.int k (mxI a b)) := fun ρ hρ => by
  simp [execOp, resolve, invoke, builtin, hρ _ _ hx, hρ _ _ hy, Builtin.max_, Builtin.max2, mxI]
theorem vv_minK (hx : ev L x = some (.int k a)) (hy : ev L y = some (.int k2 b)) : VV P L ⟨dst, .call { callee := .builtin .min, args := #[x, y], argTypes := #[t, t2] }, ty, pos, af, gu⟩ w (.int k (mnI a b)) := fun ρ hρ => by
  simp [execOp, resolve, invoke, builtin, hρ _ _ hx, hρ _ _ hy, Builtin.min_, Builtin.min2, mnI]
theorem vv_minK3 (hx : ev L x = some (.int k a)) (hy : ev L y = some (.int k2 b)) (hq : ev L q = some (.int k3 c)) : VV P L ⟨dst, .call { callee := .builtin .min, args := #[x, y, q], argTypes := #[t, t2, t3] }, ty, pos, af, gu⟩ w (.int k (mnI (mnI a b) c)) := fun ρ hρ => by
  simp [execOp, resolve, invoke, builtin, hρ _ _ hx, hρ _ _ hy, hρ _ _ hq, Builtin.min_, Builtin.min2]; unfold mnI; congr 3
variable {d e : BitVec 64}
theorem vv_maxU (hx : ev L x = some (wv d)) (hy : ev L y = some (wv e)) : VV P L ⟨dst, .call { callee := .builtin .max, args := #[x, y], argTypes := #[t, t2] }, ty, pos, af, gu⟩ w (wv (mxU d e)) := vv_eq (vv_maxK hx hy) (by
  unfold mxI mxU
  by_cases h : d < e
  · rw [if_pos h, if_pos (un_lt_iff.2 h)]
  · rw [if_neg h, if_neg (fun h' => h (un_lt_iff.1 h'))])
theorem vv_minU (hx : ev L x = some (wv d)) (hy : ev L y = some (wv e)) : VV P L ⟨dst, .call { callee := .builtin .min, args := #[x, y], argTypes := #[t, t2] }, ty, pos, af, gu⟩ w (wv (mnU d e)) := vv_eq (vv_minK hx hy) (by
  unfold mnI mnU
  by_cases h : e < d
  · rw [if_pos h, if_pos (un_lt_iff.2 h)]
  · rw [if_neg h, if_neg (fun h' => h (un_lt_iff.1 h'))])
end
/-! ### arrays -/
/-- what building an array wants to know -/
def BA (P : Program) (t : TypeId) (sz : Nat) (z : List Value) : Prop := ∃ n e, P.underlying t = some (.array n e) ∧ Siz P e sz ∧ ZV P t (.agg z.toArray)
theorem vv_buildA {P : Program} {L : Slots} {w : World} {dst : Option Nat} {ty : TypeId} {pos : String} {af : Array Edge} {gu : Option (Nat × Bool)} {t : TypeId} {sz : Nat} {z cs : List Value} {parts : Array (Nat × Operand)} {vs : List (Nat × Value)} (hb : BA P t sz z) (hp : evp L parts.toList = some vs) (hf : fillL (fun i => some (i * sz, sz)) z vs = some cs) :
    VV P L ⟨dst, .build t parts, ty, pos, af, gu⟩ w (.agg cs.toArray) := fun ρ hρ => by
  obtain ⟨n, e, hu, hs, hz⟩ := hb
  have e1 : (parts.map fun (x : Nat × Operand) => (x.1, ρ x.2)) = vs.toArray := by rw [← hρ.mapP hp, ← Array.toList_map]
  refine run_v ?_
  show (Instr.build t (parts.map fun (x : Nat × Operand) => (x.1, ρ x.2))).run P w = _
  rw [e1]
  simp only [Instr.build, Sem.run_bind, hz w, Result.andThen, run_underlying hu, hs w, Value.cells, fill_of vs z cs hf]; rfl
/-! ### nil -/
section
variable {P : Program} {L : Slots} {w : World} {dst : Option Nat} {ty : TypeId} {pos : String} {af : Array Edge} {gu : Option (Nat × Bool)} {x : Operand} {t u e : TypeId} {v : Value} {z g o sz : Nat} {α : Type} {l : List α} {c : α → List Value}
theorem rd_nilOr (hr : Rd w z g o sz v (l.map c)) : (∃ cap, v = .slice none 0 cap ∧ l = []) ∨ ∃ a k cap, v = .slice (some a) k cap := by
  rcases hr.2 with ⟨_, h, a, cap, rfl⟩ | ⟨_, cap, rfl, _⟩
  · cases a with
    | none => exact .inl ⟨cap, rfl, by simpa using h⟩
    | some a => exact .inr ⟨a, 0, cap, rfl⟩
  · exact .inr ⟨_, _, _, rfl⟩
theorem run_eqlNilD {P : Program} {a : Option Addr} {k cap : Nat} {w : World} (d : Nat) (hu : P.underlying t = some (.slice e)) : (Op.equalIn (d + 1) t (.slice a k cap) (.slice none 0 0)).run P w = .ok a.isNone w := by
  cases a <;> simp [Op.equalIn, run_underlying hu]
theorem run_eqlNil {P : Program} {a : Option Addr} {k cap : Nat} {w : World} (hu : P.underlying t = some (.slice e)) : (Op.equal t (.slice a k cap) (.slice none 0 0)).run P w = .ok a.isNone w := by
  exact run_eqlNilD 9999 hu
theorem vv_eqlNil {k cap : Nat} {a : Option Addr} (hu : P.underlying t = some (.slice e)) (hx : ev L x = some v) (hv : v = .slice a k cap) : VV P L ⟨dst, .binOp .eql t x (.const (.slice none 0 0)) u, ty, pos, af, gu⟩ w (.bool a.isNone) := fun ρ hρ => by
  subst hv
  simp [execOp, hρ _ _ hx, hρ (.const (.slice none 0 0)) _ rfl, go_sem, binOp, run_eqlNil hu]
end
/-! ### a part taken out in place -/
/-- an owned slice with room for N -/
def OwnC (w : World) (z g : Nat) (e : TypeId) (sz : Nat) (v : Value) (xs : List (List Value)) (N : Nat) : Prop :=
  z = 1 ∧ Own w z g e sz v xs ∧ ∃ k cap, v = .slice (some ⟨g, 0, none⟩) k cap ∧ N ≤ cap
section
variable {P : Program} {L : Slots} {w : World} {dst : Option Nat} {ty : TypeId} {pos : String} {af : Array Edge} {gu : Option (Nat × Bool)} {x y p q r : Operand} {t e : TypeId} {v : Value} {z g o sz N : Nat} {α : Type} {l m k : List α} {c : α → List Value} {lo hi : Int} {kl kh km : IntKind}
theorem sli3G_eq {u : Unit} (h : sli3G l lo hi = some u) : 0 ≤ lo ∧ lo ≤ hi ∧ hi ≤ l.length := by
  unfold sli3G at h; split at h
  · assumption
  · cases h
theorem ownC_of (h : Own w z g e sz v (l.map c)) (hl : 0 < l.length) : OwnC w z g e sz v (l.map c) l.length := by
  rcases h.2 with ⟨_, _, h0⟩ | ⟨hz, cap, cur, hv, h1, h2, h3⟩
  · have : l = [] := by simpa using h0
    subst this; simp at hl
  · exact ⟨hz, h, _, cap, hv, by simpa using h2⟩
theorem rd_cap (hr : Rd w z g o sz v (l.map c)) : ∃ a cap, v = .slice a l.length cap ∧ l.length ≤ cap := by
  rcases hr.2 with ⟨_, h, a, cap, rfl⟩ | ⟨_, cap, rfl, h, _⟩
  · have : l = [] := by simpa using h
    subst this; exact ⟨a, cap, rfl, Nat.zero_le _⟩
  · exact ⟨some ⟨g, o, none⟩, cap, by simp, by simpa using h.2⟩
theorem vv_sli3 {u : Unit} (hu : P.underlying t = some (.slice e)) (hs : Siz P e sz) (hx : ev L x = some v) (hr : Rd w z g o sz v (l.map c)) (hp : ev L p = some (.int kl lo)) (hq : ev L q = some (.int kh hi)) (hm : ev L r = some (.int km (l.length : Int))) (h : sli3G l lo hi = some u) :
    ∃ (v' : Value) (o' : Nat), (∀ w1, VV P L ⟨dst, .slice t x (some p) (some q) (some r), ty, pos, af, gu⟩ w1 v') ∧ True := by
  obtain ⟨h0, h1, h2⟩ := sli3G_eq h
  obtain ⟨a, cap, rfl, hc⟩ := rd_cap hr
  have he : P.elem t = e := by simp [Program.elem, hu]
  have hu' : P.underlying t = some (.slice (P.elem t)) := by rw [he]; exact hu
  refine ⟨sliced a lo.toNat hi.toNat (l.length : Int).toNat sz, 0, fun w1 ρ hρ => run_v ?_, trivial⟩
  rw [hρ _ _ hx]
  show (Instr.sliceAt t (.slice a l.length cap) (some (ρ p)) (some (ρ q)) (some (ρ r))).run P w1 = _
  rw [run_sliceAt_slice _ _ _ _ _ _ hu', hρ _ _ hp, hρ _ _ hq, hρ _ _ hm, run_slice_lhm _ _ _ _ _ hu' _ _ _ _ _ _ h0 h1 h2 (by omega), he, hs w1]; simp [Result.andThen]
theorem vv_sliO (hu : P.underlying t = some (.slice e)) (hs : Siz P e sz) (hx : ev L x = some v) (h : OwnC w z g e sz v (l.map c) N) (hq : ev L q = some (.int kh hi)) (hl : sliG l 0 hi = some m) :
    ∃ (v' : Value) (o' : Nat), (∀ w1, VV P L ⟨dst, .slice t x none (some q) none, ty, pos, af, gu⟩ w1 v') ∧ OwnC w z g e sz v' (m.map c) N := by
  obtain ⟨rfl, _, h1, h2⟩ := sliG_eq hl
  obtain ⟨hz, hO, k, cap, rfl, hN⟩ := h
  rcases hO.2 with ⟨h0, _⟩ | ⟨_, cap', cur, hv, hg, hn, hc1, hcs, htk⟩
  · omega
  cases hv
  rw [List.length_map] at hn hx
  have he : P.elem t = e := by simp [Program.elem, hu]
  have hu' : P.underlying t = some (.slice (P.elem t)) := by rw [he]; exact hu
  have hsl : sliced (some ⟨g, 0, none⟩) 0 hi.toNat cap sz = .slice (some ⟨g, 0, none⟩) hi.toNat cap := by
    simp only [sliced, Nat.sub_zero]; split
    · rfl
    · simp [Addr.add]
  have hml : ((l.take hi.toNat).map c).length = hi.toNat := by rw [List.length_map, List.length_take]; omega
  refine ⟨.slice (some ⟨g, 0, none⟩) hi.toNat cap, 0, fun w1 ρ hρ => run_v ?_, hz, ⟨?_, .inr ⟨hz, cap, cur, ?_, hg, ?_, hc1, hcs, ?_⟩⟩, _, cap, rfl, hN⟩
  · rw [hρ _ _ hx]
    show (Instr.sliceAt t (.slice (some ⟨g, 0, none⟩) l.length cap) none (some (ρ q)) none).run P w1 = _
    rw [run_sliceAt_slice _ _ _ _ _ _ hu', hρ _ _ hq, run_slice_h _ _ _ _ _ hu' _ _ h1 (by omega), he, hs w1, ← hsl]; simp [Result.andThen]
  · rw [Int.toNat_zero, List.drop_zero, List.map_take]; exact hO.1.take
  · rw [Int.toNat_zero, List.drop_zero, hml]
  · rw [Int.toNat_zero, List.drop_zero, hml]; omega
  · rw [Int.toNat_zero, List.drop_zero, hml, List.map_take, flat_take _ _ hO.1, ← htk, List.take_take, List.length_map]
    congr 1
    have : hi.toNat * sz ≤ l.length * sz := Nat.mul_le_mul_right _ (by omega)
    omega
theorem ev_appC {bytes z2 g2 o2 : Nat} {u : Value} (ha : ApT P t e sz bytes) (hx : ev L x = some v) (hy : ev L y = some u) (h : OwnC w z g e sz v (l.map c) N) (hr : Rd w z2 g2 o2 sz u (m.map c)) (hn : l.length + m.length ≤ N) :
    EV P L ⟨dst, .call { callee := .builtin .append, args := #[x, y], argTypes := #[t, t] }, ty, pos, af, gu⟩ w fun v' w' => OwnC w' z g e sz v' ((l ++ m).map c) N ∧ Md g w w' := fun ρ hρ => by
  obtain ⟨hz, hO, k, cap, rfl, hN⟩ := h
  rcases hr.2 with ⟨hz2, hm0, a, cap2, rfl⟩ | ⟨hz2, cap2, rfl, hlt, hcell⟩
  · have hm1 : m = [] := by simpa using hm0
    subst hm1
    refine .val _ w ?_ ⟨⟨hz, by simpa using hO, k, cap, rfl, hN⟩, Md.refl _ _⟩
    have := run_app0 (ty := ty) ha hO (a := a) (c := cap2)
    simp [execOp, resolve, invoke, builtin, hρ _ _ hx, hρ _ _ hy, this]
  · rcases hO.2 with ⟨h0, _⟩ | ⟨_, cap', cur, hv, hg, hn1, hc1, hcs, htk⟩
    · omega
    cases hv
    obtain ⟨i, zv, hi, hzv, hsz, hby, hzs⟩ := ha.info
    have hsrc : ∀ j u, (m.map c).flatten[j]? = some u → w.cell? ((⟨g2, o2, none⟩ : Addr).add j) = some u := fun j u hj => by rw [Addr.add_lit]; exact hcell j u hj
    subst hsz
    have hflx := hO.1.flat
    have hfly := hr.1.flat
    have hws := ws_append hO.1 hr.1
    have hlen : ((l ++ m).map c).flatten.length = (l ++ m).length * i.size := by rw [List.map_append, hws.flat, List.length_append, List.length_append, List.length_map, List.length_map]
    have hroom : (l.map c).length + (m.map c).length ≤ cap := by simp; omega
    have hfit : (l.map c).length * i.size + (m.map c).flatten.length ≤ cur.size := by rw [hfly, hcs, ← Nat.add_mul]; exact Nat.mul_le_mul_right _ hroom
    have hrun := run_append_room (P := P) w t ty e i ha.und hi g (l.map c).length cap cur hg ⟨g2, o2, none⟩ (m.map c).length cap2 (m.map c).flatten hfly hsrc hr.1.one hroom hfit
    have fin : ∀ v' w', (Builtin.append_ #[t, t] ty #[.slice (some ⟨g, 0, none⟩) (l.map c).length cap, .slice (some ⟨g2, o2, none⟩) (m.map c).length cap2]).run P w = .ok v' w' → (execOp ρ ⟨dst, .call { callee := .builtin .append, args := #[x, y], argTypes := #[t, t] }, ty, pos, af, gu⟩).run P w = .ok (.value v') w' := fun v' w' h1 => by
      simp only [execOp, resolve, invoke, builtin, hρ _ _ hx, hρ _ _ hy] at h1 ⊢; simp [resolve, invoke, builtin, hρ _ _ hx, hρ _ _ hy, h1, -List.length_map]
    refine .val _ _ (fin _ _ hrun) ⟨⟨hz, ⟨by rw [List.map_append]; exact hws, .inr ⟨hz, cap, _, by simp, setRow_heap w g cur _ e _ hg, by simpa using hroom, hc1, ?_, ?_⟩⟩, _, cap, rfl, hN⟩, ⟨rfl, rfl, rfl, by simp, fun k hk => setRow_other w g k _ hk⟩⟩
    · simp only [List.size_toArray, List.length_append, List.length_take, List.length_drop, Array.length_toList]; omega
    · rw [List.length_map, htk, ← hlen, List.map_append, List.flatten_append]; exact List.take_left
/-- what lies behind an owned slice's elements, up to N -/
def Behind (g sz N : Nat) (v u : Value) : Prop := ∃ k cap, v = .slice (some ⟨g, 0, none⟩) k cap ∧ N ≤ cap ∧ u = sliced (some ⟨g, 0, none⟩) k N cap sz
theorem vv_sliC {n : Nat} (hu : P.underlying t = some (.slice e)) (hs : Siz P e sz) (hx : ev L x = some v) (h : OwnC w z g e sz v (l.map c) N) (hn : l.length = n) (hp : ev L p = some (.int kl (n : Int))) (hq : ev L q = some (.int kh (N : Int))) (hle : n ≤ N) :
    ∃ (u : Value) (o' : Nat), (∀ w1, VV P L ⟨dst, .slice t x (some p) (some q) none, ty, pos, af, gu⟩ w1 u) ∧ Behind g sz N v u := by
  obtain ⟨hz, hO, k, cap, rfl, hN⟩ := h
  rcases hO.2 with ⟨h0, _⟩ | ⟨_, cap', cur, hv, hg, hn1, hc1, hcs, htk⟩
  · omega
  cases hv
  rw [List.length_map, hn] at hx ⊢
  have he : P.elem t = e := by simp [Program.elem, hu]
  have hu' : P.underlying t = some (.slice (P.elem t)) := by rw [he]; exact hu
  refine ⟨sliced (some ⟨g, 0, none⟩) n N cap sz, 0, fun w1 ρ hρ => run_v ?_, _, cap, rfl, hN, rfl⟩
  rw [hρ _ _ hx]
  show (Instr.sliceAt t (.slice (some ⟨g, 0, none⟩) n cap) (some (ρ p)) (some (ρ q)) none).run P w1 = _
  rw [run_sliceAt_slice _ _ _ _ _ _ hu', hρ _ _ hp, hρ _ _ hq, run_slice_lh _ _ _ _ _ hu' _ _ _ _ (by omega) (by omega) (by omega), he, hs w1]; simp [Result.andThen]
theorem ev_clrC {u zv : Value} (hu : P.underlying t = some (.slice e)) (hzv : ZV P e zv) (hzs : zv.cells.size = sz) (hones : ones zv.cells.toList = true) (hx : ev L x = some u) (h : OwnC w z g e sz v (l.map c) N) (hb : Behind g sz N v u) (hle : l.length ≤ N) :
    EV P L ⟨dst, .call { callee := .builtin .clear, args := #[x], argTypes := #[t] }, ty, pos, af, gu⟩ w fun _ w' => OwnC w' z g e sz v (l.map c) N ∧ Md g w w' := fun ρ hρ => by
  obtain ⟨hz, hO, k, cap, rfl, hN⟩ := h
  obtain ⟨k', cap', hv', hN', rfl⟩ := hb
  cases hv'
  rcases hO.2 with ⟨h0, _⟩ | ⟨_, cap', cur, hv, hg, hn1, hc1, hcs, htk⟩
  · omega
  cases hv
  rw [List.length_map] at hx hn1 htk
  by_cases hEq : N = l.length
  · refine .val (.tuple #[]) w ?_ ⟨⟨hz, hO, _, cap, rfl, hN⟩, Md.refl _ _⟩
    subst hEq
    simp only [sliced, Nat.sub_self] at hx
    split at hx <;> simp [execOp, resolve, invoke, builtin, hρ _ _ hx, Builtin.clear_, run_underlying hu]
  · have hcl : ¬ cap = l.length := by omega
    have hval : sliced (some ⟨g, 0, none⟩) l.length N cap sz = .slice (some ⟨g, l.length * sz, none⟩) (N - l.length) (cap - l.length) := by
      simp only [sliced, if_neg hcl]; simp [Addr.add_lit]
    rw [hval] at hx
    obtain ⟨n, hnn⟩ : ∃ n, N - l.length = n + 1 := ⟨N - l.length - 1, by omega⟩
    rw [hnn] at hx
    have hzl : (Builtin.zeroCells zv.cells (n + 1)).toList.length = (n + 1) * sz := by rw [← hzs]; simp [Builtin.zeroCells]
    have hmul : l.length * sz + (n + 1) * sz ≤ cur.size := by rw [hcs, ← Nat.add_mul]; exact Nat.mul_le_mul_right _ (by omega)
    have h1 : ∀ y ∈ (Builtin.zeroCells zv.cells (n + 1)).toList, y.oneCell' = true := by
      intro y hy
      simp only [Builtin.zeroCells, Array.toList_map, List.mem_map, Array.toList_range] at hy
      obtain ⟨i, hi, rfl⟩ := hy
      have hpos : 0 < zv.cells.size := by
        rcases Nat.eq_zero_or_pos zv.cells.size with h0 | h0
        · rw [h0, Nat.mul_zero] at hi; simp at hi
        · exact h0
      have hlt := Nat.mod_lt i hpos
      rw [getElem!_pos zv.cells _ hlt]
      exact ones_spec hones _ (by simp)
    have hst := run_storeCells_at (P := P) g (l.length * sz) e (Builtin.zeroCells zv.cells (n + 1)).toList 0 cur w hg (by rw [hzl]; omega) h1
    simp only [Nat.add_zero] at hst
    obtain ⟨R, hR⟩ : ∃ R, R = (cur.toList.take (l.length * sz) ++ (Builtin.zeroCells zv.cells (n + 1)).toList ++ cur.toList.drop (l.length * sz + (Builtin.zeroCells zv.cells (n + 1)).toList.length)).toArray := ⟨_, rfl⟩
    rw [← hR] at hst
    have hzz : (zeroValue e).run P w = .ok zv w := hzv w
    refine .val (.tuple #[]) (w.setRow g R) (by simp [execOp, resolve, invoke, builtin, hρ _ _ hx, Builtin.clear_, run_underlying hu, hzz, hst]) ⟨⟨hz, ⟨hO.1, .inr ⟨hz, cap, R, by simp, setRow_heap w g cur _ e _ hg, by simpa using hn1, hc1, ?_, ?_⟩⟩, _, cap, rfl, hN⟩, ⟨rfl, rfl, rfl, by simp, fun k hk => setRow_other w g k _ hk⟩⟩
    · have hc2 : cur.toList.length = cur.size := by simp
      rw [hR]; simp only [List.size_toArray, List.length_append, List.length_take, List.length_drop, hzl, hc2]; omega
    · rw [List.length_map, ← htk, hR]
      simp only [List.append_assoc]
      have hc2 : cur.toList.length = cur.size := by simp
      rw [List.take_append_of_le_length (by rw [List.length_take, hc2]; omega), List.take_take, Nat.min_self]
theorem del_len {u : Unit} {p1 p2 : Int} (h : sli3G l p1 p2 = some u) (h1 : sliG l 0 p1 = some m) (h2 : sliG l p2 (l.length : Int) = some k) : m.length + k.length ≤ l.length := by
  obtain ⟨a0, a1, a2⟩ := sli3G_eq h
  obtain ⟨rfl, _⟩ := sliG_eq h1
  obtain ⟨rfl, _⟩ := sliG_eq h2
  simp only [List.length_drop, List.length_take]; omega
theorem del_pos {u : Unit} {p1 p2 : Int} (h : sli3G l p1 p2 = some u) (hne : ¬ p1 = p2) : 0 < l.length := by
  obtain ⟨a0, a1, a2⟩ := sli3G_eq h; omega
end
end Go.Sx
