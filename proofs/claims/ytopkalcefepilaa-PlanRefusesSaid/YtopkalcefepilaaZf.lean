/- Several texts in one: ReM OpnRe MirM LawRe. -/
import Derived.Test.YtopkalcefepilaaZc
import Derived.Test.YtopkalcefepilaaZd
import Derived.Test.YtopkalcefepilaaRows
import Derived.KernelRfl
import Derived.Test.YtopkalcefepilaaZe
set_option linter.unusedVariables false
set_option linter.unusedSimpArgs false
section
set_option linter.unusedVariables false
set_option maxRecDepth 100000
namespace Go.Sx
open Go Go.RowKit
noncomputable section
def law10_PlanRefuses_J3 (p0 : TNeed) (x1 : Bool) (a8 : List TChoice) (a9 : BitVec 8) : Option (Bool) := (bif x1 then Option.bind (plan_Check p0 (TPlan.mk a8 a9)) fun x11 => ((some (decide (x11 = 100)))) else (some false))
def law10_PlanRefuses_J2 (p0 : TNeed) (p2 : BitVec 8) (p3 : Int) (x1 : Bool) (x2 : TPlan × Int) (x4 : BitVec 8) (a6 : List TChoice) : Option (Bool) := Option.bind (remU p2 7#8) fun x12 => ((if x12 = 0#8 then Option.bind (getI a6 (un8 x4)) fun y13 => (Option.bind (getI a6 (un8 x4)) fun y14 => ((law10_PlanRefuses_J3 p0 x1 (a6.set (un8 x4).toNat (TChoice.mk y14.Kind y14.Fits (w64 (y13.Items + p3)) y14.Points y14.Header y14.Storage y14.Cost y14.Witness)) x2.1.Best))) else (if x12 = 1#8 then Option.bind (getI a6 (un8 x4)) fun y15 => (Option.bind (getI a6 (un8 x4)) fun y16 => ((law10_PlanRefuses_J3 p0 x1 (a6.set (un8 x4).toNat (TChoice.mk y16.Kind y16.Fits y16.Items (w64 (y15.Points + p3)) y16.Header y16.Storage y16.Cost y16.Witness)) x2.1.Best))) else (if x12 = 2#8 then Option.bind (getI a6 (un8 x4)) fun y17 => (Option.bind (getI a6 (un8 x4)) fun y18 => ((law10_PlanRefuses_J3 p0 x1 (a6.set (un8 x4).toNat (TChoice.mk y18.Kind y18.Fits y18.Items y18.Points (w64 (y17.Header + p3)) y18.Storage y18.Cost y18.Witness)) x2.1.Best))) else (if x12 = 3#8 then Option.bind (getI a6 (un8 x4)) fun y19 => (Option.bind (getI a6 (un8 x4)) fun y20 => ((law10_PlanRefuses_J3 p0 x1 (a6.set (un8 x4).toNat (TChoice.mk y20.Kind y20.Fits y20.Items y20.Points y20.Header (w64 (y19.Storage + p3)) y20.Cost y20.Witness)) x2.1.Best))) else (if x12 = 4#8 then Option.bind (getI a6 (un8 x4)) fun y21 => (Option.bind (getI a6 (un8 x4)) fun y22 => ((law10_PlanRefuses_J3 p0 x1 (a6.set (un8 x4).toNat (TChoice.mk y22.Kind y22.Fits y22.Items y22.Points y22.Header y22.Storage (w64 (y21.Cost + p3)) y22.Witness)) x2.1.Best))) else (if x12 = 5#8 then Option.bind (getI a6 (un8 x4)) fun y23 => (Option.bind (getI a6 (un8 x4)) fun y24 => ((law10_PlanRefuses_J3 p0 x1 (a6.set (un8 x4).toNat (TChoice.mk y24.Kind (!y23.Fits) y24.Items y24.Points y24.Header y24.Storage y24.Cost y24.Witness)) x2.1.Best))) else Option.bind (remU (x2.1.Best + 1#8) 5#8) fun x25 => ((law10_PlanRefuses_J3 p0 x1 a6 x25)))))))))
def law10_PlanRefuses_J5 (p0 : TNeed) (p2 : BitVec 8) (p3 : Int) (p4 : List Int) (x1 : Bool) (x2 : TPlan × Int) (x4 : BitVec 8) (y5 : TChoice) (a30 : Bool) : Option (Bool) := (bif a30 then (some false) else Option.bind (getI (x2.1.Choices.set (un8 x4).toNat (TChoice.mk y5.Kind y5.Fits y5.Items y5.Points y5.Header y5.Storage y5.Cost p4)) (un8 x4)) fun y31 => ((law10_PlanRefuses_J2 p0 p2 p3 x1 x2 x4 ((x2.1.Choices.set (un8 x4).toNat (TChoice.mk y5.Kind y5.Fits y5.Items y5.Points y5.Header y5.Storage y5.Cost p4)).set (un8 x4).toNat (TChoice.mk y31.Kind y31.Fits y31.Items y31.Points y31.Header y31.Storage y31.Cost y5.Witness)))))
def law10_PlanRefuses_J4 (p0 : TNeed) (p2 : BitVec 8) (p3 : Int) (p4 : List Int) (x1 : Bool) (x2 : TPlan × Int) (x4 : BitVec 8) (y5 : TChoice) (x28 : List TSubset × Int) (a29 : Bool) : Option (Bool) := (bif a29 then Option.bind (plan_Check p0 (TPlan.mk (x2.1.Choices.set (un8 x4).toNat (TChoice.mk y5.Kind y5.Fits y5.Items y5.Points y5.Header y5.Storage y5.Cost p4)) x2.1.Best)) fun x32 => (Option.bind (getI (x2.1.Choices.set (un8 x4).toNat (TChoice.mk y5.Kind y5.Fits y5.Items y5.Points y5.Header y5.Storage y5.Cost p4)) (un8 x4)) fun y33 => ((law10_PlanRefuses_J5 p0 p2 p3 p4 x1 x2 x4 y5 ((decide (x32 = 0)) != (decide ((x28.1.length : Int) = y33.Items)))))) else (law10_PlanRefuses_J2 p0 p2 p3 x1 x2 x4 x2.1.Choices))
def law10_PlanRefuses_J1 (p0 : TNeed) (p1 : BitVec 8) (p2 : BitVec 8) (p3 : Int) (p4 : List Int) (x1 : Bool) (x2 : TPlan × Int) (a3 : Bool) : Option (Bool) := (bif a3 then (some x1) else (if (x2.1.Choices.length : Int) ≠ 4 then (some false) else Option.bind (remU p1 4#8) fun x4 => (Option.bind (getI x2.1.Choices (un8 x4)) fun y5 => (Option.bind (remI (un8 p1) 4) fun x26 => ((if x26 < 3 then Option.bind (law10_tree y5.Kind p0.Depth) fun x27 => (Option.bind (cover_Cover x27 p4) fun x28 => ((if x28.2 = 0 then (law10_PlanRefuses_J4 p0 p2 p3 p4 x1 x2 x4 y5 x28 (decide ((p4.length : Int) ≤ p0.Revoked))) else (law10_PlanRefuses_J4 p0 p2 p3 p4 x1 x2 x4 y5 x28 false)))) else (law10_PlanRefuses_J2 p0 p2 p3 x1 x2 x4 x2.1.Choices)))))))
/-- headend/headendlaw10.PlanRefuses -/
def law10_PlanRefuses (p0 : TNeed) (p1 : BitVec 8) (p2 : BitVec 8) (p3 : Int) (p4 : List Int) : Option (Bool) := Option.bind (law10_alive) fun x1 => (Option.bind (plan_Make p0) fun x2 => ((if x2.2 ≠ 0 then (law10_PlanRefuses_J1 p0 p1 p2 p3 p4 x1 x2 true) else (if (100 : Int) < (p4.length : Int) then (law10_PlanRefuses_J1 p0 p1 p2 p3 p4 x1 x2 true) else (if p3 = 0 then (law10_PlanRefuses_J1 p0 p1 p2 p3 p4 x1 x2 true) else (law10_PlanRefuses_J1 p0 p1 p2 p3 p4 x1 x2 (!x1)))))))
end
end Go.Sx

end
section
set_option linter.unusedVariables false
set_option linter.unusedSimpArgs false
set_option maxRecDepth 100000
namespace Go.Sx
open Go Go.RowKit Go.Proofs
theorem op_TGroup {H : Type} {enc : TypeId × Value → H} {W : World} {fuel : Nat} {cs : List Value} {x : DataW H × List MemPlace} (h : Tr enc Try.prog W fuel 24 cs x) : ∃ (m : TGroup), cs = TGroup.cs m := by
  obtain ⟨xs, n, rfl, rfl, hl, hx, hf⟩ := DataW.trod_struct Try.underlying24 h
  replace hl : cs.length = 3 := hl.trans (by kernel_rfl)
  replace hx : xs.length = 3 := hx
  obtain ⟨y0, e0⟩ := some_at (i := 0) hx rfl
  have h0 : Tr enc Try.prog W n 22 ((cs.drop 0).take 1) y0 := fld hf (i := 0) rfl rfl rfl (by kernel_rfl) e0
  obtain ⟨m0, c0⟩ := op_u64 Try.underlying22 h0
  obtain ⟨y1, e1⟩ := some_at (i := 1) hx rfl
  have h1 : Tr enc Try.prog W n 22 ((cs.drop 1).take 1) y1 := fld hf (i := 1) rfl rfl rfl (by kernel_rfl) e1
  obtain ⟨m1, c1⟩ := op_u64 Try.underlying22 h1
  obtain ⟨y2, e2⟩ := some_at (i := 2) hx rfl
  have h2 : Tr enc Try.prog W n 22 ((cs.drop 2).take 1) y2 := fld hf (i := 2) rfl rfl rfl (by kernel_rfl) e2
  obtain ⟨m2, c2⟩ := op_u64 Try.underlying22 h2
  have q := cat_end hl
  replace q := cat_step (o := 2) (k := 1) c2 q
  replace q := cat_step (o := 1) (k := 1) c1 q
  replace q := cat_step (o := 0) (k := 1) c0 q
  exact ⟨⟨m0, m1, m2⟩, q⟩
def TNeed.ok (x : TNeed) : Prop := I64 x.Depth ∧ I64 x.Revoked ∧ I64 x.Storage ∧ I64 x.Headers ∧ I64 x.HeaderPrice ∧ I64 x.StoragePrice
theorem op_TNeed {H : Type} {enc : TypeId × Value → H} {W : World} {fuel : Nat} {cs : List Value} {x : DataW H × List MemPlace} (h : Tr enc Try.prog W fuel 50 cs x) : ∃ (m : TNeed), cs = TNeed.cs m ∧ TNeed.ok m := by
  obtain ⟨xs, n, rfl, rfl, hl, hx, hf⟩ := DataW.trod_struct Try.underlying50 h
  replace hl : cs.length = 9 := hl.trans (by kernel_rfl)
  replace hx : xs.length = 7 := hx
  obtain ⟨y0, e0⟩ := some_at (i := 0) hx rfl
  have h0 : Tr enc Try.prog W n 3 ((cs.drop 0).take 1) y0 := fld hf (i := 0) rfl rfl rfl (by kernel_rfl) e0
  obtain ⟨m0, c0, k0⟩ := op_i64 Try.underlying3 h0
  obtain ⟨y1, e1⟩ := some_at (i := 1) hx rfl
  have h1 : Tr enc Try.prog W n 3 ((cs.drop 1).take 1) y1 := fld hf (i := 1) rfl rfl rfl (by kernel_rfl) e1
  obtain ⟨m1, c1, k1⟩ := op_i64 Try.underlying3 h1
  obtain ⟨y2, e2⟩ := some_at (i := 2) hx rfl
  have h2 : Tr enc Try.prog W n 3 ((cs.drop 2).take 1) y2 := fld hf (i := 2) rfl rfl rfl (by kernel_rfl) e2
  obtain ⟨m2, c2, k2⟩ := op_i64 Try.underlying3 h2
  obtain ⟨y3, e3⟩ := some_at (i := 3) hx rfl
  have h3 : Tr enc Try.prog W n 3 ((cs.drop 3).take 1) y3 := fld hf (i := 3) rfl rfl rfl (by kernel_rfl) e3
  obtain ⟨m3, c3, k3⟩ := op_i64 Try.underlying3 h3
  obtain ⟨y4, e4⟩ := some_at (i := 4) hx rfl
  have h4 : Tr enc Try.prog W n 3 ((cs.drop 4).take 1) y4 := fld hf (i := 4) rfl rfl rfl (by kernel_rfl) e4
  obtain ⟨m4, c4, k4⟩ := op_i64 Try.underlying3 h4
  obtain ⟨y5, e5⟩ := some_at (i := 5) hx rfl
  have h5 : Tr enc Try.prog W n 3 ((cs.drop 5).take 1) y5 := fld hf (i := 5) rfl rfl rfl (by kernel_rfl) e5
  obtain ⟨m5, c5, k5⟩ := op_i64 Try.underlying3 h5
  obtain ⟨y6, e6⟩ := some_at (i := 6) hx rfl
  have h6 : Tr enc Try.prog W n 24 ((cs.drop 6).take 3) y6 := fld hf (i := 6) rfl rfl rfl (by kernel_rfl) e6
  obtain ⟨m6, c6⟩ := op_TGroup h6
  have q := cat_end hl
  replace q := cat_step (o := 6) (k := 3) c6 q
  replace q := cat_step (o := 5) (k := 1) c5 q
  replace q := cat_step (o := 4) (k := 1) c4 q
  replace q := cat_step (o := 3) (k := 1) c3 q
  replace q := cat_step (o := 2) (k := 1) c2 q
  replace q := cat_step (o := 1) (k := 1) c1 q
  replace q := cat_step (o := 0) (k := 1) c0 q
  exact ⟨⟨m0, m1, m2, m3, m4, m5, m6⟩, q, ⟨k0, k1, k2, k3, k4, k5⟩⟩
end Go.Sx

end
section
set_option linter.unusedVariables false
set_option linter.unusedSimpArgs false
namespace Go.Sx
open Go Go.RowKit
section
variable {P : Program} {L : Slots} {w : World} {dst : Option Nat} {ty : TypeId} {pos : String} {af : Array Edge} {gu : Option (Nat × Bool)} {x y p q r : Operand} {t e : TypeId} {v : Value} {z g o sz : Nat} {α : Type} {l m : List α} {c : α → List Value} {lo hi : Int} {kl kh km : IntKind}
theorem run_sli3 {ρ : Operand → Value} {a : Option Addr} {len cap : Nat} (hρ : Cons L ρ) (hu : P.underlying t = some (.slice e)) (hs : Siz P e sz) (hp : ev L p = some (.int kl lo)) (hq : ev L q = some (.int kh hi)) (hm : ev L r = some (.int km hi)) (h0 : 0 ≤ lo) (h1 : lo ≤ hi) (h2 : hi ≤ (cap : Int)) :
    (Instr.sliceAt t (.slice a len cap) (some (ρ p)) (some (ρ q)) (some (ρ r))).run P w = .ok (sliced a lo.toNat hi.toNat hi.toNat sz) w := by
  have he : P.elem t = e := by simp [Program.elem, hu]
  have hu' : P.underlying t = some (.slice (P.elem t)) := by rw [he]; exact hu
  rw [run_sliceAt_slice _ _ _ _ _ _ hu', hρ _ _ hp, hρ _ _ hq, hρ _ _ hm, run_slice_lhm _ _ _ _ _ hu' _ _ _ _ _ _ h0 h1 (by omega) h2, he, hs w]; simp [Result.andThen]
theorem vv_sliT3 (hu : P.underlying t = some (.slice e)) (hs : Siz P e sz) (hx : ev L x = some v) (hr : Rd w z g o sz v (l.map c)) (hp : ev L p = some (.int kl lo)) (hq : ev L q = some (.int kh hi)) (hmx : ev L r = some (.int km hi)) (hl : sliG l lo hi = some m) :
    ∃ v' o', (∀ w1, VV P L ⟨dst, .slice t x (some p) (some q) (some r), ty, pos, af, gu⟩ w1 v') ∧ Rd w z g o' sz v' (m.map c) := by
  obtain ⟨rfl, h3, h4, h5⟩ := sliG_eq hl
  rcases hr.2 with ⟨hz, hnil, a, cap, rfl⟩ | ⟨hz, cap, rfl, ⟨hg, hcap⟩, hcell⟩
  · have hl0 : l = [] := by simpa using hnil
    subst hl0
    simp only [List.length_nil] at h5
    have e1 : lo = 0 := by omega
    have e2 : hi = 0 := by omega
    subst e1 e2
    refine ⟨_, 0, fun w1 ρ hρ => run_v (by rw [hρ _ _ hx]; exact run_sli3 hρ hu hs hp hq hmx (by omega) (by omega) (by omega)), by simpa using hr.1, .inl ⟨hz, by simp, ?_⟩⟩
    exact ⟨_, _, rfl⟩
  · rw [List.length_map] at hcap hx
    have hlen : ((l.map c).take hi.toNat).length = hi.toNat := by rw [List.length_take, List.length_map]; omega
    have hm : (((l.take hi.toNat).drop lo.toNat).map c) = ((l.map c).take hi.toNat).drop lo.toNat := by rw [List.map_drop, List.map_take]
    have hml : (((l.take hi.toNat).drop lo.toNat).map c).length = hi.toNat - lo.toNat := by rw [hm, List.length_drop, hlen]
    refine ⟨_, if hi.toNat = lo.toNat then o else o + lo.toNat * sz, fun w1 ρ hρ => run_v (by rw [hρ _ _ hx]; exact run_sli3 hρ hu hs hp hq hmx h3 h4 (by omega)), by rw [hm]; exact hr.1.take.drop, .inr ⟨hz, hi.toNat - lo.toNat, ?_, ⟨hg, by rw [hml]; omega⟩, fun j u hj => ?_⟩⟩
    · simp only [sliced, hml]
      by_cases e : hi.toNat = lo.toNat
      · rw [if_pos e, if_pos e]
      · rw [if_neg e, if_neg e]; simp [Addr.add_lit]
    · rw [hm, flat_drop _ _ hr.1.take, flat_take _ _ hr.1, List.getElem?_drop] at hj
      have hj2 : (l.map c).flatten[lo.toNat * sz + j]? = some u := by
        rw [List.getElem?_take] at hj
        split at hj
        · exact hj
        · cases hj
      by_cases e : hi.toNat = lo.toNat
      · exfalso
        rw [List.getElem?_take, e] at hj
        split at hj
        · omega
        · cases hj
      · rw [if_neg e, Nat.add_assoc]; exact hcell _ _ hj2
/-- a part of an owned slice -/
theorem vv_sliV {n : Nat} (hu : P.underlying t = some (.slice e)) (hs : Siz P e sz) (hx : ev L x = some v) (h : Own w z g e sz v (l.map c)) (hp : ev L p = some (.int kl lo)) (hq : ev L q = some (.int kh hi)) (hm : ev L r = some (.int km hi)) (hl : viewG l lo hi = some n) :
    VV P L ⟨dst, .slice t x (some p) (some q) (some r), ty, pos, af, gu⟩ w (.slice (some ⟨g, lo.toNat * sz, none⟩) n n) := fun ρ hρ => by
  unfold viewG at hl
  split at hl
  · rename_i hh
    obtain ⟨h0, h1, h2⟩ := hh
    cases hl
    rcases h.2 with ⟨_, _, h0'⟩ | ⟨hz, cap, cur, rfl, h1', h2', h3⟩
    · have : l = [] := by simpa using h0'
      subst this; simp at h2; omega
    · rw [List.length_map] at h2'
      refine run_v ?_
      rw [hρ _ _ hx]
      show (Instr.sliceAt t (.slice (some ⟨g, 0, none⟩) _ cap) (some (ρ p)) (some (ρ q)) (some (ρ r))).run P w = _
      rw [run_sli3 hρ hu hs hp hq hm h0 (by omega) (by omega)]
      simp only [sliced]
      rw [if_neg (by omega)]
      simp [Addr.add_lit]
      omega
  · cases hl
theorem vv_ixVw {n : Nat} {i j : Int} {k : IntKind} {v : Value} (hv : v = .slice (some ⟨g, lo.toNat * sz, none⟩) n n) (h0 : 0 ≤ lo) (hu : P.underlying t = some (.slice e)) (hs : Siz P e sz) (hx : ev L x = some v) (hy : ev L y = some (.int k i)) (hj : ixG lo n i = some j) :
    VV P L ⟨dst, .indexAddr t x y, ty, pos, af, gu⟩ w (.pointer (some ⟨g, 0 + j.toNat * sz, none⟩)) := by
  unfold ixG at hj
  split at hj
  · rename_i hh
    cases hj
    subst hv
    have := vv_indexAddrS (dst := dst) (ty := ty) (pos := pos) (af := af) (gu := gu) (w := w) hu hs hx hy hh.1 hh.2
    have e : lo.toNat * sz + i.toNat * sz = 0 + (lo + i).toNat * sz := by rw [← Nat.add_mul, Int.toNat_add h0 hh.1]; omega
    rwa [e] at this
  · cases hj
theorem viewG_nn {n : Nat} (hl : viewG l lo hi = some n) : 0 ≤ lo := by
  unfold viewG at hl; split at hl
  · rename_i hh; exact hh.1
  · cases hl
/-- an index in an array that is held -/
theorem vv_ixE {len b' off : Nat} {i : Int} {k : IntKind} (j : Nat) (hu : P.underlying t = some (.array len e)) (hs : Siz P e sz) (hx : ev L x = some (.pointer (some ⟨b', off, none⟩))) (hy : ev L y = some (.int k i)) (h : i = (j : Int)) (hj : j < len) :
    VV P L ⟨dst, .indexAddr t x y, ty, pos, af, gu⟩ w (.pointer (some ⟨b', off + j * sz, none⟩)) := by
  have := vv_indexAddr (dst := dst) (ty := ty) (pos := pos) (af := af) (gu := gu) (w := w) hu hs hx hy (by omega) (by omega)
  rwa [show i.toNat = j from by omega] at this
theorem vv_ixV1 {len : Nat} {i : Int} {k : IntKind} {a : α} {u : Value} {cs : List Value} (hu : P.underlying t = some (.array len e)) (hs : Siz P e 1) (h1 : One P e) (hx : ev L x = some (.agg cs.toArray)) (hcs : cs = (l.map c).flatten) (hl : l.length = len) (hw : Ws 1 (l.map c)) (hy : ev L y = some (.int k i)) (hg : getI l i = some a) (hc : c a = [u]) :
    VV P L ⟨dst, .index t x y, ty, pos, af, gu⟩ w u := fun ρ hρ => by
  have h0 := getI_nn hg
  have h2 := getI_lt hg
  have h2' : i < (len : Int) := by omega
  have hp : (part e cs.toArray (i.toNat * 1)).run P w = .ok u w := by
    have hq : cs[i.toNat]? = some u := by
      have := Ws.at (sz := 1) i.toNat 0 (c a) hw (getm (getI_at hg)) (by omega)
      rw [hcs]; rw [hc] at this; simpa using this
    have hq2 : cs.toArray[i.toNat]? = some u := by simpa using hq
    simp [part, (h1 w).1, hq2]
  rw [Nat.mul_one] at hp
  refine run_v ?_
  rw [hρ _ _ hx, hρ _ _ hy]
  simp [Instr.index, run_underlying hu, asIntOf, h0, h2', hs w, hp]
end
end Go.Sx

end
section
set_option linter.unusedVariables false
set_option linter.unusedSimpArgs false
set_option maxRecDepth 100000
namespace Go.Sx
open Go Go.Sx.Pn Go.Sx.Po
theorem eqf_set {n : TNeed} (h : vnB n = true) {i : Nat} (hi : i < 4) (c : TChoice) : eqfB n ((chs n).set i c) (chs n) = agrB n c (chN n (i + 1)) := by
  have a1 := agr_self h (k := 1) (by omega)
  have a2 := agr_self h (k := 2) (by omega)
  have a3 := agr_self h (k := 3) (by omega)
  have a4 := agr_self h (k := 4) (by omega)
  unfold eqfB chs
  rcases (show i = 0 ∨ i = 1 ∨ i = 2 ∨ i = 3 by omega) with rfl | rfl | rfl | rfl
  all_goals
    simp only [List.set_cons_zero, List.set_cons_succ, List.zip_cons_cons, List.zip_nil_right, List.all_cons, List.all_nil, Bool.and_true, List.length_cons, List.length_nil, decide_true, Bool.true_and, a1, a2, a3, a4]
theorem ck_set {n : TNeed} (h : vnB n = true) {i : Nat} (hi : i < 4) {c : TChoice} (hc : c.Witness.length ≤ 100) : plan_Check n ⟨(chs n).set i c, (bestP n).1⟩ = some (if agrB n c (chN n (i + 1)) = true then 0 else 100) := by
  rw [pck_eq h _ (fun x hx => by
    rcases List.mem_or_eq_of_mem_set hx with hx | rfl
    · obtain ⟨k, hk, rfl⟩ := chs_mem hx; have := chs_wit h hk; omega
    · omega) (by show ((chs n).set i c).length < _; rw [List.length_set]; show 4 < _; omega)]
  show some (if (bestP n).1 = (bestP n).1 ∧ eqfB n ((chs n).set i c) (chs n) = true then 0 else 100) = _
  rw [eqf_set h hi]
  cases agrB n c (chN n (i + 1)) with
  | false => rw [if_neg (fun x => by cases x.2), if_neg (by simp)]
  | true => rw [if_pos ⟨rfl, rfl⟩, if_pos rfl]
theorem ck_bad {n : TNeed} (h : vnB n = true) {i : Nat} (hi : i < 4) {c : TChoice} (hc : c.Witness.length ≤ 100) (hn : ¬ numE c (chN n (i + 1))) : plan_Check n ⟨(chs n).set i c, (bestP n).1⟩ = some 100 := by
  rw [ck_set h hi hc]
  unfold agrB
  rw [decide_eq_false hn, Bool.false_and, if_neg (by simp)]
theorem w64_ne {a b : Int} (ha : 0 ≤ a ∧ a ≤ 4000000000) (hb : I64 b) (h0 : b ≠ 0) : w64 (a + b) ≠ a := by
  have := IntKind.wrap_i64 (a + b)
  unfold I64 at hb
  unfold w64
  rw [this]
  omega
theorem ch_nums {n : TNeed} (h : vnB n = true) {k : Nat} (hk : 1 ≤ k ∧ k ≤ 4) : (0 ≤ (chN n k).Items ∧ (chN n k).Items ≤ 32) ∧ (0 ≤ (chN n k).Points ∧ (chN n k).Points ≤ 8) ∧ (0 ≤ (chN n k).Header ∧ (chN n k).Header ≤ 1000) ∧ (0 ≤ (chN n k).Storage ∧ (chN n k).Storage ≤ 400) ∧ (0 ≤ (chN n k).Cost ∧ (chN n k).Cost ≤ 2000000000) := by
  by_cases h4 : k = 4
  · subst h4
    rw [show chN n 4 = ch4 n from if_pos rfl]
    unfold ch4
    by_cases hp : plV (sch4 n) = true
    · rw [if_pos hp]
      have hg : 1 ≤ mxI n.Revoked 1 ∧ mxI n.Revoked 1 ≤ 8 := (plV_deg hp).2.2.2
      obtain ⟨_, q1, _, q2⟩ := cost_le h (hd := 67 + 18 * 0 + 16 * mxI n.Revoked 1) (c := 8) (by omega) (by omega)
      unfold mkC; simp only at *; omega
    · rw [if_neg hp]; simp
  · rw [show chN n k = ch3 n k from if_neg h4]
    obtain ⟨b1, b2⟩ := ch_bounds h (k := k) (by omega)
    obtain ⟨_, q1, _, q2⟩ := cost_le h (hd := 67 + 18 * (wst k n.Depth.toNat n.Revoked.toNat).1 + 16 * 0) (c := 16 * stoN k n.Depth.toNat) (by omega) (by omega)
    unfold ch3 mkC; simp only at *; omega
theorem best_next (n : TNeed) : remU ((bestP n).1 + 1#8) 5#8 ≠ some (bestP n).1 ∧ ∃ x, remU ((bestP n).1 + 1#8) 5#8 = some x := by
  rcases best_cases n with ⟨b1, _⟩ | ⟨j, hj, b1, _⟩
  · rw [b1]; exact ⟨by decide, _, rfl⟩
  · rw [b1]
    rcases (show j = 0 ∨ j = 1 ∨ j = 2 ∨ j = 3 by omega) with rfl | rfl | rfl | rfl <;> exact ⟨by decide, _, rfl⟩
theorem ref_J2 {n : TNeed} (h : vnB n = true) (p2 : BitVec 8) {p3 : Int} (hp : I64 p3) (h0 : p3 ≠ 0) {x4 : BitVec 8} {i : Nat} (hi : i < 4) (hx : un8 x4 = (i : Int)) : law10_PlanRefuses_J2 n p2 p3 true (plP n, 0) x4 (chs n) = some true := by
  obtain ⟨m1, m2, m3, m4, m5⟩ := ch_nums h (k := i + 1) (by omega)
  have hw := chs_wit h (k := i + 1) (by omega)
  have key : ∀ c : TChoice, c.Witness = (chN n (i + 1)).Witness → ¬ numE c (chN n (i + 1)) → law10_PlanRefuses_J3 n true ((chs n).set i c) (bestP n).1 = some true := fun c hc hn => by
    unfold law10_PlanRefuses_J3
    rw [cond_true, ck_bad h hi (by rw [hc]; omega) hn, bind_some]; rfl
  unfold law10_PlanRefuses_J2
  rw [hx, chs_get hi, Int.toNat_natCast]
  obtain ⟨x12, hx12⟩ : ∃ x, remU p2 7#8 = some x := ⟨_, rfl⟩
  rw [hx12, bind_some]
  simp only [bind_some]
  by_cases c0 : x12 = 0#8
  · rw [if_pos c0]; exact key _ rfl fun hn => w64_ne (by omega) hp h0 hn.2.2.1
  rw [if_neg c0]
  by_cases c1 : x12 = 1#8
  · rw [if_pos c1]; exact key _ rfl fun hn => w64_ne (by omega) hp h0 hn.2.2.2.1
  rw [if_neg c1]
  by_cases c2 : x12 = 2#8
  · rw [if_pos c2]; exact key _ rfl fun hn => w64_ne (by omega) hp h0 hn.2.2.2.2.1
  rw [if_neg c2]
  by_cases c3 : x12 = 3#8
  · rw [if_pos c3]; exact key _ rfl fun hn => w64_ne (by omega) hp h0 hn.2.2.2.2.2.1
  rw [if_neg c3]
  by_cases c4 : x12 = 4#8
  · rw [if_pos c4]; exact key _ rfl fun hn => w64_ne (by omega) hp h0 hn.2.2.2.2.2.2
  rw [if_neg c4]
  by_cases c5 : x12 = 5#8
  · rw [if_pos c5]; exact key _ rfl fun hn => by
      have : (!(chN n (i + 1)).Fits) = (chN n (i + 1)).Fits := hn.2.1
      cases hf : (chN n (i + 1)).Fits <;> rw [hf] at this <;> cases this
  rw [if_neg c5]
  obtain ⟨b1, x, b2⟩ := best_next n
  show Option.bind (remU ((bestP n).1 + 1#8) 5#8) _ = _
  rw [b2, bind_some]
  unfold law10_PlanRefuses_J3
  rw [cond_true, pck_eq h _ (fun c hc => by obtain ⟨k, hk, rfl⟩ := chs_mem hc; have := chs_wit h hk; omega) (by show (chs n).length < _; simp [chs]), if_neg (fun hc => b1 (by rw [b2]; exact congrArg some hc.1)), bind_some]; rfl
theorem law10_PlanRefuses_ok (n : TNeed) (p1 p2 : BitVec 8) (p3 : Int) (l : List Int) (hn : n.ok) (h3 : I64 p3) (hl : ∀ a ∈ l, I64 a) (hlen : l.length * 8 ≤ 140737488351232) : law10_PlanRefuses n p1 p2 p3 l = some true := by
  unfold law10_PlanRefuses
  rw [alive10, bind_some]
  cases h : vnB n with
  | false => rw [make_no h, bind_some, if_pos (by simp)]; rfl
  | true =>
    rw [make_ok h, bind_some, if_neg (by simp)]
    by_cases g1 : (100 : Int) < (l.length : Int)
    · rw [if_pos g1]; rfl
    rw [if_neg g1]
    by_cases g2 : p3 = 0
    · rw [if_pos g2]; rfl
    rw [if_neg g2]
    unfold law10_PlanRefuses_J1
    rw [Bool.not_true, cond_false]
    show (if ((chs n).length : Int) ≠ 4 then _ else Option.bind (remU p1 4#8) fun x4 => Option.bind (getI (chs n) (un8 x4)) _) = _
    rw [if_neg (by simp [chs])]
    obtain ⟨i, hi, hx, hr⟩ : ∃ i : Nat, i < 4 ∧ un8 (p1 % 4#8) = (i : Int) ∧ (un8 p1).tmod 4 = (i : Int) := by
      refine ⟨p1.toNat % 4, Nat.mod_lt _ (by omega), ?_, ?_⟩
      · unfold un8; rw [BitVec.toNat_umod]; rfl
      · unfold un8; rw [Int.tmod_eq_emod_of_nonneg (by omega)]; omega
    rw [show remU p1 4#8 = some (p1 % 4#8) from rfl, bind_some, hx, chs_get hi, bind_some, show remI (un8 p1) 4 = some ((un8 p1).tmod 4) from rfl, bind_some, hr]
    by_cases g3 : (i : Int) < 3
    · rw [if_pos g3]
      unfold law10_tree
      rw [bind_some, pcover_eq _ _ (by omega), bind_some]
      have hJ2 := ref_J2 h p2 h3 g2 hi hx
      by_cases g4 : (covP ⟨(chN n (i + 1)).Kind, n.Depth, 0, ⟨0#64, 0#64, 0#64⟩⟩ l).2 = 0
      · rw [if_pos g4]
        unfold law10_PlanRefuses_J4
        by_cases g5 : (l.length : Int) ≤ n.Revoked
        · rw [decide_eq_true g5, cond_true, hx, Int.toNat_natCast]
          generalize hc : chN n (i + 1) = c at *
          have hk : c.Kind ≠ 4#8 := by
            rw [← hc, ch_kind]; intro hk; have := congrArg BitVec.toNat hk; rw [of8_lt (by omega)] at this; simp at this; omega
          show Option.bind (plan_Check n ⟨(chs n).set i ⟨c.Kind, c.Fits, c.Items, c.Points, c.Header, c.Storage, c.Cost, l⟩, (bestP n).1⟩) (fun x32 => Option.bind (getI ((chs n).set i ⟨c.Kind, c.Fits, c.Items, c.Points, c.Header, c.Storage, c.Cost, l⟩) (i : Int)) _) = _
          rw [ck_set h hi (by show l.length ≤ 100; omega), bind_some]
          have hlen : i < ((chs n).set i ⟨c.Kind, c.Fits, c.Items, c.Points, c.Header, c.Storage, c.Cost, l⟩).length := by rw [List.length_set]; exact hi
          rw [getI_some hlen, bind_some, List.getElem_set_self, hc]
          have ha : agrB n ⟨c.Kind, c.Fits, c.Items, c.Points, c.Header, c.Storage, c.Cost, l⟩ c = decide (((covP ⟨c.Kind, n.Depth, 0, ⟨0#64, 0#64, 0#64⟩⟩ l).1.length : Int) = c.Items) := by
            unfold agrB
            rw [decide_eq_true (show numE ⟨c.Kind, c.Fits, c.Items, c.Points, c.Header, c.Storage, c.Cost, l⟩ c from ⟨rfl, rfl, rfl, rfl, rfl, rfl, rfl⟩), Bool.true_and]
            unfold witB
            rw [if_neg hk, decide_eq_decide]
            exact ⟨fun x => x.2.2, fun x => ⟨g4, g5, x⟩⟩
          rw [ha]
          have hb : ∀ p : Bool, (decide ((if p = true then (0 : Int) else 100) = 0) != p) = false := fun p => by cases p <;> decide
          rw [hb]
          unfold law10_PlanRefuses_J5
          rw [cond_false, hx, Int.toNat_natCast]
          show Option.bind (getI ((chs n).set i ⟨c.Kind, c.Fits, c.Items, c.Points, c.Header, c.Storage, c.Cost, l⟩) (i : Int)) (fun y31 => law10_PlanRefuses_J2 n p2 p3 true (plP n, 0) _ (((chs n).set i ⟨c.Kind, c.Fits, c.Items, c.Points, c.Header, c.Storage, c.Cost, l⟩).set i _)) = _
          rw [getI_some hlen, bind_some, List.getElem_set_self, List.set_set]
          have hs : (chs n).set i c = chs n := by
            rw [← hc, ← chs_at hi]; exact List.set_getElem_self _
          show law10_PlanRefuses_J2 n p2 p3 true (plP n, 0) _ ((chs n).set i c) = _
          rw [hs]; exact hJ2
        · rw [decide_eq_false g5, cond_false]; exact hJ2
      · rw [if_neg g4]
        unfold law10_PlanRefuses_J4
        rw [cond_false]; exact hJ2
    · rw [if_neg g3]; exact ref_J2 h p2 h3 g2 hi hx
end Go.Sx

end
