/- MX: slices whose elements hold slices (deep ones): each element is a pair of its mirror and of the headers that its cells have; what the headers lead to lies in the blocks F, that are read alone. -/
import Derived.Test.YtjdffpglgkefmaaGreatMirK
set_option linter.unusedVariables false
set_option linter.unusedSimpArgs false
namespace Go.Sx
open Go Go.RowKit

/-- how an element's mirror and headers lie in memory -/
structure Rp (α : Type) where
  γ : Type
  sz : Nat
  c : α × γ → List Value
  S : World → List Nat → α × γ → Prop
  ws : ∀ {w F p}, S w F p → (c p).length = sz ∧ ones (c p) = true
  keep : ∀ {w w' F p}, S w F p → w.heap.size ≤ w'.heap.size → (∀ b ∈ F, b < w.heap.size → w'.heap[b]? = w.heap[b]?) → S w' F p
  mono : ∀ {w F F' p}, S w F p → (∀ b ∈ F, b ∈ F') → S w F' p
/-- an owned slice of such -/
def OwnD {α : Type} (R : Rp α) (w : World) (z g : Nat) (e : TypeId) (v : Value) (F : List Nat) (l : List α) : Prop :=
  ∃ lg : List (α × R.γ), lg.map Prod.fst = l ∧ Own w z g e R.sz v (lg.map R.c) ∧ (∀ p ∈ lg, R.S w F p) ∧ (∀ b ∈ F, b < w.heap.size) ∧ (z = 0 ∨ ∀ b ∈ F, b ≠ g)
/-- one that is read -/
def RdD {α : Type} (R : Rp α) (w : World) (z g o : Nat) (v : Value) (F : List Nat) (l : List α) : Prop :=
  ∃ lg : List (α × R.γ), lg.map Prod.fst = l ∧ Rd w z g o R.sz v (lg.map R.c) ∧ (∀ p ∈ lg, R.S w F p) ∧ (∀ b ∈ F, b < w.heap.size)
section
variable {α : Type} {R : Rp α} {w w' w₁ : World} {z g o b z' g' : Nat} {e : TypeId} {v : Value} {F F' : List Nat} {l : List α} {lz : List (Nat × Nat)} {ms : List Nat}
theorem OwnD.rd (h : OwnD R w z g e v F l) : RdD R w z g 0 v F l := by
  obtain ⟨lg, h1, h2, h3, h4, h5⟩ := h; exact ⟨lg, h1, h2.rd, h3, h4⟩
theorem OwnD.keep (h : OwnD R w z g e v F l) (hs : w.heap.size ≤ w'.heap.size) (hg : z = 0 ∨ (g < w.heap.size → w'.heap[g]? = w.heap[g]?)) (hF : ∀ b ∈ F, b < w.heap.size → w'.heap[b]? = w.heap[b]?) : OwnD R w' z g e v F l := by
  obtain ⟨lg, h1, h2, h3, h4, h5⟩ := h
  exact ⟨lg, h1, h2.keep hg, fun p hp => R.keep (h3 p hp) hs hF, fun b hb => Nat.lt_of_lt_of_le (h4 b hb) hs, h5⟩
theorem RdD.keep (h : RdD R w z g o v F l) (hs : w.heap.size ≤ w'.heap.size) (hg : z = 0 ∨ (g < w.heap.size → w'.heap[g]? = w.heap[g]?)) (hF : ∀ b ∈ F, b < w.heap.size → w'.heap[b]? = w.heap[b]?) : RdD R w' z g o v F l := by
  obtain ⟨lg, h1, h2, h3, h4⟩ := h
  exact ⟨lg, h1, h2.keep hg hs, fun p hp => R.keep (h3 p hp) hs hF, fun b hb => Nat.lt_of_lt_of_le (h4 b hb) hs⟩
theorem OwnD.gr (h : OwnD R w z g e v F l) (k : Gr w w') : OwnD R w' z g e v F l := h.keep k.size (.inr fun hl => k.block g hl) (fun b _ hl => k.block b hl)
theorem RdD.gr (h : RdD R w z g o v F l) (k : Gr w w') : RdD R w' z g o v F l := h.keep k.size (.inr fun hl => k.block g hl) (fun b _ hl => k.block b hl)
theorem OwnD.md (h : OwnD R w z g e v F l) (k : Md b w w') (hn : z = 0 ∨ g ≠ b) (hF : ∀ x ∈ F, 1 = 0 ∨ x ≠ b) : OwnD R w' z g e v F l := h.keep (Nat.le_of_eq k.size.symm) (hn.imp id fun hn _ => k.block g hn) (fun x hx _ => k.block x ((hF x hx).resolve_left (by decide)))
theorem RdD.md (h : RdD R w z g o v F l) (k : Md b w w') (hn : z = 0 ∨ g ≠ b) (hF : ∀ x ∈ F, 1 = 0 ∨ x ≠ b) : RdD R w' z g o v F l := h.keep (Nat.le_of_eq k.size.symm) (hn.imp id fun hn _ => k.block g hn) (fun x hx _ => k.block x ((hF x hx).resolve_left (by decide)))
theorem OwnD.ka (h : OwnD R w z g e v F l) (k : Ka z' g' w w') (hn : z = 0 ∨ z' = 0 ∨ g ≠ g') (hF : ∀ x ∈ F, z' = 0 ∨ x ≠ g') : OwnD R w' z g e v F l := h.keep k.size (hn.imp id fun hn hl => k.block g hl hn) (fun x hx hl => k.block x hl (hF x hx))
theorem RdD.ka (h : RdD R w z g o v F l) (k : Ka z' g' w w') (hn : z = 0 ∨ z' = 0 ∨ g ≠ g') (hF : ∀ x ∈ F, z' = 0 ∨ x ≠ g') : RdD R w' z g o v F l := h.keep k.size (hn.imp id fun hn hl => k.block g hl hn) (fun x hx hl => k.block x hl (hF x hx))
theorem OwnD.kz (h : OwnD R w z g e v F l) (k : Kz lz w w') (hn : z = 0 ∨ Nin lz g) (hF : ∀ x ∈ F, Nin lz x) : OwnD R w' z g e v F l := h.keep k.size (hn.imp id fun hn hl => k.block g hl hn) (fun x hx hl => k.block x hl (hF x hx))
theorem RdD.kz (h : RdD R w z g o v F l) (k : Kz lz w w') (hn : z = 0 ∨ Nin lz g) (hF : ∀ x ∈ F, Nin lz x) : RdD R w' z g o v F l := h.keep k.size (hn.imp id fun hn hl => k.block g hl hn) (fun x hx hl => k.block x hl (hF x hx))
theorem OwnD.lth (h : OwnD R w z g e v F l) : Hdn (z = 0 ∨ (z = 1 ∧ g < w.heap.size)) := by obtain ⟨lg, h1, h2, _⟩ := h; exact h2.lth
theorem RdD.lth (h : RdD R w z g o v F l) : Hdn (z = 0 ∨ (z = 1 ∧ g < w.heap.size)) := by obtain ⟨lg, h1, h2, _⟩ := h; exact h2.lth
theorem OwnD.flt (h : OwnD R w z g e v F l) : ∀ b ∈ F, b < w.heap.size := by obtain ⟨lg, h1, h2, h3, h4, _⟩ := h; exact h4
theorem RdD.flt (h : RdD R w z g o v F l) : ∀ b ∈ F, b < w.heap.size := by obtain ⟨lg, h1, h2, h3, h4⟩ := h; exact h4
theorem OwnD.oneB (h : OwnD R w z g e v F l) : Sx.oneB v = true := by obtain ⟨lg, h1, h2, _⟩ := h; exact h2.oneB
theorem RdD.oneB (h : RdD R w z g o v F l) : Sx.oneB v = true := by obtain ⟨lg, h1, h2, _⟩ := h; exact h2.oneB
theorem ownD_nil (R : Rp α) (w : World) (g : Nat) (e : TypeId) : OwnD R w 0 g e (.slice none 0 0) [] [] := ⟨[], rfl, own_nil w g e R.sz, nofun, nofun, .inl rfl⟩
theorem rdD_nil (R : Rp α) (w : World) (g o : Nat) : RdD R w 0 g o (.slice none 0 0) [] [] := ⟨[], rfl, rd_nil w g o R.sz, nofun, nofun⟩
theorem OwnD.z1 {i : Int} {a : α} (h : OwnD R w z g e v F l) (hg : getI l i = some a) : z = 1 := by
  obtain ⟨lg, h1, h2, _⟩ := h
  rcases h2.2 with ⟨_, _, h0⟩ | ⟨h0, _⟩
  · have := getI_at hg
    rw [← h1, List.map_eq_nil_iff.1 h0] at this; simp at this
  · exact h0
theorem len_fst {β : Type} {lg : List (α × β)} (h : lg.map Prod.fst = l) : lg.length = l.length := by rw [← h, List.length_map]
theorem get_fst {β : Type} {lg : List (α × β)} {i : Int} {a : α} (h : lg.map Prod.fst = l) (hg : getI l i = some a) : ∃ x, getI lg i = some (a, x) := by
  have h0 := getI_nn hg
  have h1 := getI_at hg
  rw [← h, List.getElem?_map] at h1
  cases hx : lg[i.toNat]? with
  | none => rw [hx] at h1; cases h1
  | some p =>
    rw [hx] at h1
    have : p.1 = a := Option.some.inj h1
    exact ⟨p.2, by unfold getI; rw [if_pos h0, hx, ← this]⟩
/-- an element that is read -/
theorem RdD.at {i : Int} {a : α} (h : RdD R w z g o v F l) (hg : getI l i = some a) : ∃ (lg : List (α × R.γ)) (x : R.γ), Rd w z g o R.sz v (lg.map R.c) ∧ getI lg i = some (a, x) ∧ R.S w F (a, x) := by
  obtain ⟨lg, h1, h2, h3, h4⟩ := h
  obtain ⟨x, hx⟩ := get_fst h1 hg
  exact ⟨lg, x, h2, hx, h3 _ (List.mem_of_getElem? (getI_at hx))⟩
variable {P : Program} {L : Slots} {dst : Option Nat} {ty : TypeId} {pos : String} {af : Array Edge} {gu : Option (Nat × Bool)} {x y : Operand} {t : TypeId}
theorem vv_lenD (hu : P.underlying t = some (.slice e)) (hx : ev L x = some v) (hr : RdD R w z g o v F l) : VV P L ⟨dst, .call { callee := .builtin .len, args := #[x], argTypes := #[t] }, ty, pos, af, gu⟩ w (.int .i64 (l.length : Int)) := by
  obtain ⟨lg, h1, h2, _⟩ := hr
  exact vv_lenN hu hx h2 (by rw [List.length_map, len_fst h1])
theorem vv_ixD {i : Int} {a : α} (hu : P.underlying t = some (.slice e)) (hs : Siz P e R.sz) (hx : ev L x = some v) (hr : RdD R w z g o v F l) (hy : ev L y = some (.int .i64 i)) (hg : getI l i = some a) :
    VV P L ⟨dst, .indexAddr t x y, ty, pos, af, gu⟩ w (.pointer (some ⟨g, o + i.toNat * R.sz, none⟩)) := by
  obtain ⟨lg, h1, h2, _⟩ := hr
  exact vv_ixN hu hs hx h2 (by rw [List.length_map, len_fst h1]) hy (getI_nn hg) (getI_lt hg)
theorem ev_appD {bytes z2 g2 o2 : Nat} {u : Value} {m k : List α} {F2 : List Nat} (ha : ApT P t e R.sz bytes) (hx : ev L x = some v) (hy : ev L y = some u) (h : OwnD R w z g e v F l) (hr : RdD R w z2 g2 o2 u F2 m) (hb : appG bytes l m = some k) (hpos : 1 ≤ bytes) (hF : ∀ b ∈ F2, z = 0 ∨ b ≠ g) :
    EV P L ⟨dst, .call { callee := .builtin .append, args := #[x, y], argTypes := #[t, t] }, ty, pos, af, gu⟩ w fun v' w' => ∃ z' g', OwnD R w' z' g' e v' (F ++ F2) k ∧ Ka z g w w' ∧ Hdn (z' = 0 ∨ (z' = 1 ∧ g' < w'.heap.size)) ∧ Hdn ((g' = g ∧ z = 1) ∨ w.heap.size ≤ g' ∨ z' = 0) := by
  obtain ⟨lg, h1, h2, h3, h4, h5⟩ := h
  obtain ⟨mg, m1, m2, m3, m4⟩ := hr
  obtain ⟨rfl, hb2⟩ := appG_eq hb
  have e1 : appG bytes lg mg = some (lg ++ mg) := by unfold appG; rw [len_fst h1, len_fst m1, if_pos hb2]
  refine (ev_appT ha hx hy h2 m2 e1 hpos).mono ?_
  rintro v' w' ⟨z', g', q1, q2, q3, q4⟩
  refine ⟨z', g', ⟨lg ++ mg, by rw [List.map_append, h1, m1], q1, ?_, ?_, ?_⟩, q2, q3, q4⟩
  · have kF : ∀ b ∈ F ++ F2, b < w.heap.size → w'.heap[b]? = w.heap[b]? := fun b hb hl => q2.block b hl (by
      rcases List.mem_append.1 hb with hb | hb
      · exact h5.imp id fun h5 => h5 b hb
      · exact hF b hb)
    intro p hp
    rcases List.mem_append.1 hp with hp | hp
    · exact R.keep (R.mono (h3 p hp) fun b hb => List.mem_append_left _ hb) q2.size kF
    · exact R.keep (R.mono (m3 p hp) fun b hb => List.mem_append_right _ hb) q2.size kF
  · intro b hb
    rcases List.mem_append.1 hb with hb | hb
    · exact Nat.lt_of_lt_of_le (h4 b hb) q2.size
    · exact Nat.lt_of_lt_of_le (m4 b hb) q2.size
  · rcases q4.o with ⟨rfl, hz⟩ | hn | h0
    · refine .inr fun b hb => ?_
      rcases List.mem_append.1 hb with hb | hb
      · exact (h5.resolve_left (by omega)) b hb
      · exact (hF b hb).resolve_left (by omega)
    · refine .inr fun b hb => ?_
      rcases List.mem_append.1 hb with hb | hb
      · have := h4 b hb; omega
      · have := m4 b hb; omega
    · exact .inl h0
theorem ev_litD {len : Nat} {zs cs : List Value} {parts : Array (Nat × Operand)} {vs : List (Nat × Value)} (lg : List (α × R.γ)) (hb : BSl P t len e R.sz zs) (hp : evp L parts.toList = some vs) (hf : fillL (fun i => some (i * R.sz, R.sz)) zs vs = some cs)
    (hx : cs = (lg.map R.c).flatten) (hl : lg.length = len) (hm : Nat.ble len 1000000 = true) (hS : ∀ p ∈ lg, R.S w F p) (hF : ∀ b ∈ F, b < w.heap.size) :
    EV P L ⟨dst, .buildSlice t len parts, ty, pos, af, gu⟩ w fun v' w' => ∃ g', w.heap.size ≤ g' ∧ OwnD R w' 1 g' e v' F (lg.map Prod.fst) ∧ Gr w w' := by
  refine (ev_litT lg R.c hb hp hf (fun y hy => ?_) hx hl hm).mono ?_
  · obtain ⟨p, hp, rfl⟩ := List.mem_map.1 hy
    exact R.ws (hS p hp)
  · rintro v' w' ⟨g', h1, h2, h3⟩
    exact ⟨g', h1, ⟨lg, rfl, h2, fun p hp => R.keep (hS p hp) h3.size (fun b _ hl => h3.block b hl), fun b hb => Nat.lt_of_lt_of_le (hF b hb) h3.size, .inr fun b hb => by have := hF b hb; omega⟩, h3⟩
theorem map_repl {β : Type} (f : α → β) (n : Nat) (a : α) : (List.replicate n a).map f = List.replicate n (f a) := by simp
theorem ev_mkD {bytes : Nat} {zv : Value} {a : α} {x0 : R.γ} {n : Int} (ha : ApT P t e R.sz bytes) (hz : ZV P e zv) (hc : zv.cells = (R.c (a, x0)).toArray) (hS : R.S w [] (a, x0)) (hx : ev L x = some (.int .i64 n)) (hl : mkL bytes n a = some l) (hpos : 1 ≤ bytes) :
    EV P L ⟨dst, .makeSlice t x x, ty, pos, af, gu⟩ w fun v' w' => ∃ g', w.heap.size ≤ g' ∧ OwnD R w' 1 g' e v' [] l ∧ Gr w w' := by
  obtain ⟨rfl, h0, hb⟩ := mkL_eq hl
  have hl' : mkL bytes n (a, x0) = some (List.replicate n.toNat (a, x0)) := by unfold mkL; rw [if_pos ⟨h0, hb⟩]
  refine (ev_mkT ha hz hc (R.ws hS) hx hl' hpos).mono ?_
  rintro v' w' ⟨g', h1, h2, h3⟩
  refine ⟨g', h1, ⟨_, map_repl _ _ _, h2, fun p hp => ?_, nofun, .inr nofun⟩, h3⟩
  rw [List.eq_of_mem_replicate hp]
  exact R.keep hS h3.size nofun
/-- an element whose cells turn -/
theorem ev_stElD {a a' : α} {i : Int} {p q m : Nat} {u : Value} {vs : List Value} {F2 : List Nat} (hs : Siz P t m) (hx : ev L x = some (.pointer (some ⟨g, p, none⟩))) (hy : ev L y = some u) (hc : u.cells = vs.toArray) (hm : vs.length = m) (h1 : ones vs = true)
    (h : OwnD R w z g e v F l) (hg : getI l i = some a) (hp : p = i.toNat * R.sz + q) (hq : Nat.ble (q + m) R.sz = true)
    (he : ∀ x0, R.S w F (a, x0) → ∃ x', spl (R.c (a, x0)) q vs = R.c (a', x') ∧ R.S w (F ++ F2) (a', x')) (hF2 : ∀ b ∈ F2, b < w.heap.size) (hF : ∀ b ∈ F2, z = 0 ∨ b ≠ g) :
    EV P L ⟨dst, .store t x y, ty, pos, af, gu⟩ w fun _ w' => OwnD R w' z g e v (F ++ F2) (l.set i.toNat a') ∧ Md g w w' := by
  obtain ⟨lg, q1, q2, q3, q4, q5⟩ := h
  obtain ⟨x0, hx0⟩ := get_fst q1 hg
  obtain ⟨x', e1, e2⟩ := he x0 (q3 _ (List.mem_of_getElem? (getI_at hx0)))
  refine (ev_stEl (a' := (a', x')) hs hx hy hc hm h1 q2 hx0 hp hq e1 (R.ws e2)).mono ?_
  rintro _ w' ⟨h2, h3⟩
  have hz : z ≠ 0 := by
    rintro rfl
    rcases q2.2 with ⟨_, _, h0⟩ | ⟨h0, _⟩
    · have := getI_at hx0
      rw [List.map_eq_nil_iff.1 h0] at this; simp at this
    · cases h0
  have kF : ∀ b ∈ F ++ F2, b < w.heap.size → w'.heap[b]? = w.heap[b]? := fun b hb hl => h3.block b (by
    rcases List.mem_append.1 hb with hb | hb
    · exact (q5.resolve_left hz) b hb
    · exact (hF b hb).resolve_left hz)
  refine ⟨⟨lg.set i.toNat (a', x'), by rw [List.map_set, q1], h2, ?_, ?_, ?_⟩, h3⟩
  · intro p hp
    rcases List.mem_or_eq_of_mem_set hp with hp | hp
    · exact R.keep (R.mono (q3 p hp) fun b hb => List.mem_append_left _ hb) (Nat.le_of_eq h3.size.symm) kF
    · subst hp; exact R.keep e2 (Nat.le_of_eq h3.size.symm) kF
  · intro b hb
    rw [h3.size]
    rcases List.mem_append.1 hb with hb | hb
    · exact q4 b hb
    · exact hF2 b hb
  · refine .inr fun b hb => ?_
    rcases List.mem_append.1 hb with hb | hb
    · exact (q5.resolve_left hz) b hb
    · exact (hF b hb).resolve_left hz
end
/-! ### representations -/
/-- an element that is a slice of flat elements -/
def rpSl {α : Type} (sz : Nat) (c : α → List Value) : Rp (List α) where
  γ := Value
  sz := 1
  c p := [p.2]
  S w F p := ∃ z g o, Rd w z g o sz p.2 (p.1.map c) ∧ (z = 0 ∨ g ∈ F)
  ws := fun ⟨z, g, o, h, _⟩ => ⟨rfl, by simp [ones, h.oneB]⟩
  keep := fun ⟨z, g, o, h, hg⟩ hs hF => ⟨z, g, o, h.keep (hg.imp id fun hg hl => hF g hg hl) hs, hg⟩
  mono := fun ⟨z, g, o, h, hg⟩ hF => ⟨z, g, o, h, hg.imp id fun hg => hF g hg⟩
/-- one that is a slice of deep elements -/
def rpSd {α : Type} (R : Rp α) : Rp (List α) where
  γ := Value
  sz := 1
  c p := [p.2]
  S w F p := ∃ (z g o : Nat) (lg : List (α × R.γ)), Rd w z g o R.sz p.2 (lg.map R.c) ∧ lg.map Prod.fst = p.1 ∧ (∀ q ∈ lg, R.S w F q) ∧ (z = 0 ∨ g ∈ F)
  ws := fun ⟨z, g, o, lg, h, _⟩ => ⟨rfl, by simp [ones, h.oneB]⟩
  keep := fun ⟨z, g, o, lg, h, h1, h2, hg⟩ hs hF => ⟨z, g, o, lg, h.keep (hg.imp id fun hg hl => hF g hg hl) hs, h1, fun q hq => R.keep (h2 q hq) hs hF, hg⟩
  mono := fun ⟨z, g, o, lg, h, h1, h2, hg⟩ hF => ⟨z, g, o, lg, h, h1, fun q hq => R.mono (h2 q hq) hF, hg.imp id fun hg => hF g hg⟩
/-- a struct with one slice in it -/
def rpSt {α β : Type} (sz : Nat) (cs : α → Value → List Value) (f : α → List β) (k : Nat) (c : β → List Value) (hcs : ∀ a v, oneB v = true → (cs a v).length = sz ∧ ones (cs a v) = true) : Rp α where
  γ := Value
  sz := sz
  c p := cs p.1 p.2
  S w F p := ∃ z g o, Rd w z g o k p.2 ((f p.1).map c) ∧ (z = 0 ∨ g ∈ F)
  ws := fun ⟨z, g, o, h, _⟩ => hcs _ _ h.oneB
  keep := fun ⟨z, g, o, h, hg⟩ hs hF => ⟨z, g, o, h.keep (hg.imp id fun hg hl => hF g hg hl) hs, hg⟩
  mono := fun ⟨z, g, o, h, hg⟩ hF => ⟨z, g, o, h, hg.imp id fun hg => hF g hg⟩
section
variable {α : Type} {R : Rp α} {w : World} {F F' : List Nat} {l : List α} {v : Value}
theorem rpSd_open {x : (rpSd R).γ} (h : (rpSd R).S w F (l, x)) (hF : ∀ b ∈ F, b < w.heap.size) : ∃ z g o, RdD R w z g o x F l ∧ (z = 0 ∨ g ∈ F) := by
  obtain ⟨z, g, o, lg, h1, h2, h3, h4⟩ := h
  exact ⟨z, g, o, ⟨lg, h2, h1, h3, hF⟩, h4⟩
theorem rpSd_mk {z g o : Nat} (h : RdD R w z g o v F l) (hg : z = 0 ∨ g ∈ F') (hF : ∀ b ∈ F, b ∈ F') : (rpSd R).S w F' (l, v) := by
  obtain ⟨lg, h1, h2, h3, h4⟩ := h
  exact ⟨z, g, o, lg, h2, h1, fun q hq => R.mono (h3 q hq) hF, hg⟩
end
section
variable {α β : Type} {w : World} {z g o k sz : Nat} {F : List Nat} {v : Value} {i : Int}
theorem atSl {c : α → List Value} {l : List (List α)} {a : List α} (h : RdD (rpSl sz c) w z g o v F l) (hg : getI l i = some a) : ∃ (lg : List (List α × Value)) (x : Value) (z' g' o' : Nat), Rd w z g o 1 v (lg.map fun p => [p.2]) ∧ getI lg i = some (a, x) ∧ Rd w z' g' o' sz x (a.map c) ∧ Hdn (z' = 0 ∨ g' ∈ F) := by
  obtain ⟨lg, x, h1, h2, z', g', o', h3, h4⟩ := h.at hg
  exact ⟨lg, x, z', g', o', h1, h2, h3, ⟨h4⟩⟩
theorem atSd {R : Rp α} {l : List (List α)} {a : List α} (h : RdD (rpSd R) w z g o v F l) (hg : getI l i = some a) : ∃ (lg : List (List α × Value)) (x : Value) (z' g' o' : Nat), Rd w z g o 1 v (lg.map fun p => [p.2]) ∧ getI lg i = some (a, x) ∧ RdD R w z' g' o' x F a ∧ Hdn (z' = 0 ∨ g' ∈ F) := by
  have hF := h.flt
  obtain ⟨lg, x, h1, h2, h3⟩ := h.at hg
  obtain ⟨z', g', o', h3, h4⟩ := rpSd_open h3 hF
  exact ⟨lg, x, z', g', o', h1, h2, h3, ⟨h4⟩⟩
theorem atSt {cs : α → Value → List Value} {f : α → List β} {c : β → List Value} {hcs : ∀ a v, oneB v = true → (cs a v).length = sz ∧ ones (cs a v) = true} {l : List α} {a : α} (h : RdD (rpSt sz cs f k c hcs) w z g o v F l) (hg : getI l i = some a) : ∃ (lg : List (α × Value)) (x : Value) (z' g' o' : Nat), Rd w z g o sz v (lg.map fun p => cs p.1 p.2) ∧ getI lg i = some (a, x) ∧ Rd w z' g' o' k x ((f a).map c) ∧ Hdn (z' = 0 ∨ g' ∈ F) := by
  obtain ⟨lg, x, h1, h2, z', g', o', h3, h4⟩ := h.at hg
  exact ⟨lg, x, z', g', o', h1, h2, h3, ⟨h4⟩⟩
variable {R : Rp α} {l : List α} {a : α} {P : Program} {L : Slots} {dst : Option Nat} {ty : TypeId} {pos : String} {af : Array Edge} {gu : Option (Nat × Bool)} {x y : Operand} {t e : TypeId}
/-- a flat part of an element -/
theorem vv_elD1 {p q : Nat} {u : Value} (h1 : One P t) (hx : ev L x = some (.pointer (some ⟨g, p, none⟩))) (hr : RdD R w z g o v F l) (hg : getI l i = some a) (hp : p = o + (i.toNat * R.sz + q)) (hc : ∀ x, (R.c (a, x))[q]? = some u) : VV P L ⟨dst, .load t x, ty, pos, af, gu⟩ w u := by
  obtain ⟨lg, x, h2, h3, _⟩ := hr.at hg
  exact vv_el1T h1 hx h2 h3 hp (hc x)
theorem vv_elDM {p q m : Nat} {vs : List Value} (h1 : Agg P t m) (hx : ev L x = some (.pointer (some ⟨g, p, none⟩))) (hr : RdD R w z g o v F l) (hg : getI l i = some a) (hp : p = o + (i.toNat * R.sz + q)) (hc : ∀ x, ((R.c (a, x)).drop q).take m = vs) (hl : vs.length = m) : VV P L ⟨dst, .load t x, ty, pos, af, gu⟩ w (.agg vs.toArray) := by
  obtain ⟨lg, x, h2, h3, _⟩ := hr.at hg
  exact vv_elMT h1 hx h2 h3 hp (hc x) hl
/-- a flat part of an element that turns -/
theorem ev_stElD0 {a' : α} {p q m : Nat} {u : Value} {vs : List Value} (hs : Siz P t m) (hx : ev L x = some (.pointer (some ⟨g, p, none⟩))) (hy : ev L y = some u) (hc : u.cells = vs.toArray) (hm : vs.length = m) (h1 : ones vs = true)
    (h : OwnD R w z g e v F l) (hg : getI l i = some a) (hp : p = i.toNat * R.sz + q) (hq : Nat.ble (q + m) R.sz = true) (he : ∀ x0, R.S w F (a, x0) → spl (R.c (a, x0)) q vs = R.c (a', x0) ∧ R.S w F (a', x0)) :
    EV P L ⟨dst, .store t x y, ty, pos, af, gu⟩ w fun _ w' => OwnD R w' z g e v F (l.set i.toNat a') ∧ Md g w w' := by
  have := ev_stElD (F2 := []) (dst := dst) (ty := ty) (pos := pos) (af := af) (gu := gu) hs hx hy hc hm h1 h hg hp hq (fun x0 hx0 => ⟨x0, (he x0 hx0).1, by rw [List.append_nil]; exact (he x0 hx0).2⟩) nofun nofun
  rwa [List.append_nil] at this
end
/-! ### what is known of the blocks F -/
section
variable {A : Nat → Prop} {F F2 F3 : List Nat} {z g n n2 x : Nat}
theorem fA_nil : ∀ x ∈ ([] : List Nat), A x := nofun
theorem fA_app (h1 : ∀ x ∈ F, A x) (h2 : ∀ x ∈ F2, A x) : ∀ x ∈ F ++ F2, A x := fun x hx => (List.mem_append.1 hx).elim (h1 x) (h2 x)
theorem fA_zf (h : z = 0 ∨ A g) : ∀ x ∈ zf z g, A x := fun x hx => by
  obtain ⟨h1, rfl⟩ := mem_zf.1 hx
  exact h.resolve_left h1
theorem fA_in (h : Hdn (z = 0 ∨ g ∈ F)) (hF : ∀ x ∈ F, A x) : z = 0 ∨ A g := h.o.imp id (hF g)
/-- of these blocks, of these slices, or new -/
def Pv (F : List Nat) (zs : List (Nat × Nat)) (n x : Nat) : Prop := x ∈ F ∨ Mz zs x ∨ n ≤ x
theorem fA_pv {zs : List (Nat × Nat)} (h : ∀ x ∈ F, Pv F2 zs n x) (h1 : ∀ x ∈ F2, A x) (h2 : ∀ x, Mz zs x → A x) (h3 : ∀ x, n ≤ x → A x) : ∀ x ∈ F, A x := fun x hx => (h x hx).elim (h1 x) fun h => h.elim (h2 x) (h3 x)
theorem mz_nil : ∀ x, Mz [] x → A x := nofun
theorem mz_cons {zs : List (Nat × Nat)} (h : z = 0 ∨ A g) (h2 : ∀ x, Mz zs x → A x) : ∀ x, Mz ((z, g) :: zs) x → A x := fun x hx => hx.elim (fun ⟨h1, h3⟩ => h1 ▸ h.resolve_left h3) (h2 x)
theorem zf_lt {w : World} (h : z = 0 ∨ (z = 1 ∧ g < w.heap.size)) : ∀ b ∈ zf z g, b < w.heap.size := fA_zf (h.imp id And.right)
theorem fA_in1 {b : Nat} (h : Hdn (z = 0 ∨ g ∈ F)) (hF : ∀ x ∈ F, 1 = 0 ∨ x ≠ b) : z = 0 ∨ g ≠ b := h.o.imp id fun h => (hF g h).resolve_left (by decide)
theorem or_1 {b : Nat} (h : z = 0 ∨ g ≠ b) : z = 0 ∨ 1 = 0 ∨ g ≠ b := h.imp id .inr
theorem fA_ws {zy gy : Nat} (h : ∀ x ∈ F, zy = 0 ∨ x ≠ gy) : zy = 0 ∨ ∀ x ∈ F, x ≠ gy := by
  by_cases hz : zy = 0
  · exact .inl hz
  · exact .inr fun x hx => (h x hx).resolve_left hz
theorem fA_sw {zy gy : Nat} (h : zy = 0 ∨ ∀ x ∈ F, x ≠ gy) : ∀ x ∈ F, zy = 0 ∨ x ≠ gy := fun x hx => h.imp id fun h => h x hx
theorem pv_Pv {zs : List (Nat × Nat)} {F' : List Nat} (h : z = 0 ∨ Mz zs g ∨ n ≤ g) : z = 0 ∨ Pv F' zs n g := h.imp id .inr
theorem in_zf (z g : Nat) : z = 0 ∨ g ∈ zf z g := by
  by_cases h : z = 0
  · exact .inl h
  · exact .inr (mem_zf.2 ⟨h, rfl⟩)
theorem in_l (h : z = 0 ∨ g ∈ F) : z = 0 ∨ g ∈ F ++ F2 := h.imp id (List.mem_append_left _)
theorem in_r (h : z = 0 ∨ g ∈ F2) : z = 0 ∨ g ∈ F ++ F2 := h.imp id (List.mem_append_right _)
end
end Go.Sx
