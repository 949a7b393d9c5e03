/- Several texts in one: XpM OpnXp MirM LawXp. -/
import Derived.Test.YtopkalcefepilaaZc
import Derived.Test.YtopkalcefepilaaZd
import Derived.Test.YtopkalcefepilaaRows
import Derived.KernelRfl
import Derived.Test.YtopkalcefepilaaZe
set_option linter.unusedVariables false
set_option linter.unusedSimpArgs false
section
set_option linter.unusedVariables false
set_option maxRecDepth 100000
namespace Go.Sx
open Go Go.RowKit
noncomputable section
def ref10_SameTables_L2 (p0 : List (List (List Int))) (p1 : List (List (List Int))) (a2 : Int) (rec1 : (Int) → Option (Bool)) (rec2 : (Int) → Option (Bool)) (a6 : Int) : Option (Bool) := Option.bind (getI p0 a2) fun y7 => ((if a6 < (y7.length : Int) then Option.bind (getI p0 a2) fun y8 => (Option.bind (getI y8 a6) fun y9 => (Option.bind (getI p1 a2) fun y10 => (Option.bind (getI y10 a6) fun y11 => (Option.bind (ref03_SameInts y9 y11) fun x12 => ((bif (!x12) then (some false) else (rec2 (w64 (a6 + 1))))))))) else (rec1 (w64 (a2 + 1)))))
def ref10_SameTables_L1 (p0 : List (List (List Int))) (p1 : List (List (List Int))) (rec1 : (Int) → Option (Bool)) (a2 : Int) : Option (Bool) := (if a2 < (p0.length : Int) then Option.bind (getI p0 a2) fun y3 => (Option.bind (getI p1 a2) fun y4 => ((if (y3.length : Int) ≠ (y4.length : Int) then (some false) else (fixN (ref10_SameTables_L2 p0 p1 a2 rec1) FUEL 0)))) else (some true))
/-- headend/headendref10.SameTables -/
def ref10_SameTables (p0 : List (List (List Int))) (p1 : List (List (List Int))) : Option (Bool) := (if (p0.length : Int) ≠ (p1.length : Int) then (some false) else (fixN (ref10_SameTables_L1 p0 p1) FUEL 0))
def law10_PlanExamples_J4 (x20 : TPlan × Int) (a21 : Bool) : Option (Bool) := (bif a21 then (some false) else Option.bind (getI x20.1.Choices 0) fun y22 => (Option.bind (law10_small) fun x23 => (Option.bind (plan_Check x23 (TPlan.mk (x20.1.Choices.set (0 : Int).toNat (TChoice.mk y22.Kind y22.Fits y22.Items y22.Points y22.Header y22.Storage y22.Cost [0])) x20.1.Best)) fun x24 => (Option.bind (getI (x20.1.Choices.set (0 : Int).toNat (TChoice.mk y22.Kind y22.Fits y22.Items y22.Points y22.Header y22.Storage y22.Cost [0])) 0) fun y25 => ((if x24 = 0 then Option.bind (law10_small) fun x26 => (Option.bind (plan_Check x26 (TPlan.mk ((x20.1.Choices.set (0 : Int).toNat (TChoice.mk y22.Kind y22.Fits y22.Items y22.Points y22.Header y22.Storage y22.Cost [0])).set (0 : Int).toNat (TChoice.mk y25.Kind y25.Fits y25.Items y25.Points y25.Header y25.Storage y25.Cost [0, 1])) x20.1.Best)) fun x27 => ((some (decide (x27 = 100))))) else (some false)))))))
def law10_PlanExamples_J3 (a16 : Bool) (a17 : Bool) (a18 : Bool) : Option (Bool) := Option.bind (law10_small) fun x19 => (Option.bind (plan_Make x19) fun x20 => (Option.bind (law10_alive) fun x28 => ((bif (!x28) then (law10_PlanExamples_J4 x20 true) else (bif (!a16) then (law10_PlanExamples_J4 x20 true) else (bif (!a17) then (law10_PlanExamples_J4 x20 true) else (bif (!a18) then (law10_PlanExamples_J4 x20 true) else (if x20.2 ≠ 0 then (law10_PlanExamples_J4 x20 true) else Option.bind (law10_small) fun x29 => (Option.bind (plan_Check x29 x20.1) fun x30 => ((law10_PlanExamples_J4 x20 (decide (x30 ≠ 0)))))))))))))
def law10_PlanExamples_J2 (x11 : Int × Int) (x13 : Int × Int) (x15 : Int × Int) (a16 : Bool) (a17 : Bool) : Option (Bool) := (if x11.2 = 0 then (if x11.1 = 5 then (if x13.2 = 0 then (if x13.1 = 3 then (if x15.2 = 0 then (law10_PlanExamples_J3 a16 a17 (decide (x15.1 = 10))) else (law10_PlanExamples_J3 a16 a17 false)) else (law10_PlanExamples_J3 a16 a17 false)) else (law10_PlanExamples_J3 a16 a17 false)) else (law10_PlanExamples_J3 a16 a17 false)) else (law10_PlanExamples_J3 a16 a17 false))
def law10_PlanExamples_J1 (x2 : List (List (List Int)) × Int) (x4 : List (List (List Int)) × Int) (x6 : Int × Int) (x8 : TChoice × Int) (x9 : TNeed) (x11 : Int × Int) (x13 : Int × Int) (x15 : Int × Int) (a16 : Bool) : Option (Bool) := (if x2.2 = 0 then (if x4.2 = 0 then (if x6.2 = 2 then (if x8.2 = 2 then Option.bind (plan_CheckNeed (TNeed.mk x9.Depth 5 x9.Storage x9.Headers x9.HeaderPrice x9.StoragePrice x9.Group)) fun x31 => ((if x31 = 2 then Option.bind (law10_tree 1#8 1) fun x32 => (Option.bind (plan_CheckTables x32 x4.1) fun x33 => ((if x33 = 100 then Option.bind (law10_tree 2#8 1) fun x34 => (Option.bind (plan_CheckTables x34 x4.1) fun x35 => ((law10_PlanExamples_J2 x11 x13 x15 a16 (decide (x35 = 0))))) else (law10_PlanExamples_J2 x11 x13 x15 a16 false)))) else (law10_PlanExamples_J2 x11 x13 x15 a16 false))) else (law10_PlanExamples_J2 x11 x13 x15 a16 false)) else (law10_PlanExamples_J2 x11 x13 x15 a16 false)) else (law10_PlanExamples_J2 x11 x13 x15 a16 false)) else (law10_PlanExamples_J2 x11 x13 x15 a16 false))
/-- headend/headendlaw10.PlanExamples -/
def law10_PlanExamples  : Option (Bool) := Option.bind (law10_tree 1#8 1) fun x1 => (Option.bind (plan_Tables x1) fun x2 => (Option.bind (law10_tree 2#8 1) fun x3 => (Option.bind (plan_Tables x3) fun x4 => (Option.bind (law10_tree 1#8 2) fun x5 => (Option.bind (plan_Worst x5 5) fun x6 => (Option.bind (law10_small) fun x7 => (Option.bind (plan_Choose x7 5#8) fun x8 => (Option.bind (law10_small) fun x9 => (Option.bind (law10_tree 3#8 6) fun x10 => (Option.bind (plan_Worst x10 2) fun x11 => (Option.bind (law10_tree 2#8 6) fun x12 => (Option.bind (plan_Worst x12 2) fun x13 => (Option.bind (law10_tree 1#8 6) fun x14 => (Option.bind (plan_Worst x14 2) fun x15 => (Option.bind (ref10_SameTables x2.1 [[[1, 0], [1, 1, 0]]]) fun x36 => ((bif x36 then Option.bind (ref10_SameTables x4.1 [[[0, 0], [0, 1, 0]], [[0, 1], [0, 1, 1]]]) fun x37 => ((law10_PlanExamples_J1 x2 x4 x6 x8 x9 x11 x13 x15 x37)) else (law10_PlanExamples_J1 x2 x4 x6 x8 x9 x11 x13 x15 false))))))))))))))))))
end
end Go.Sx

end
section
set_option linter.unusedVariables false
set_option linter.unusedSimpArgs false
set_option maxRecDepth 100000
namespace Go.Sx
open Go Go.RowKit Go.Proofs
end Go.Sx

end
section
set_option linter.unusedVariables false
set_option linter.unusedSimpArgs false
namespace Go.Sx
open Go Go.RowKit
section
variable {P : Program} {L : Slots} {w : World} {dst : Option Nat} {ty : TypeId} {pos : String} {af : Array Edge} {gu : Option (Nat × Bool)} {x y p q r : Operand} {t e : TypeId} {v : Value} {z g o sz : Nat} {α : Type} {l m : List α} {c : α → List Value} {lo hi : Int} {kl kh km : IntKind}
theorem run_sli3 {ρ : Operand → Value} {a : Option Addr} {len cap : Nat} (hρ : Cons L ρ) (hu : P.underlying t = some (.slice e)) (hs : Siz P e sz) (hp : ev L p = some (.int kl lo)) (hq : ev L q = some (.int kh hi)) (hm : ev L r = some (.int km hi)) (h0 : 0 ≤ lo) (h1 : lo ≤ hi) (h2 : hi ≤ (cap : Int)) :
    (Instr.sliceAt t (.slice a len cap) (some (ρ p)) (some (ρ q)) (some (ρ r))).run P w = .ok (sliced a lo.toNat hi.toNat hi.toNat sz) w := by
  have he : P.elem t = e := by simp [Program.elem, hu]
  have hu' : P.underlying t = some (.slice (P.elem t)) := by rw [he]; exact hu
  rw [run_sliceAt_slice _ _ _ _ _ _ hu', hρ _ _ hp, hρ _ _ hq, hρ _ _ hm, run_slice_lhm _ _ _ _ _ hu' _ _ _ _ _ _ h0 h1 (by omega) h2, he, hs w]; simp [Result.andThen]
theorem vv_sliT3 (hu : P.underlying t = some (.slice e)) (hs : Siz P e sz) (hx : ev L x = some v) (hr : Rd w z g o sz v (l.map c)) (hp : ev L p = some (.int kl lo)) (hq : ev L q = some (.int kh hi)) (hmx : ev L r = some (.int km hi)) (hl : sliG l lo hi = some m) :
    ∃ v' o', (∀ w1, VV P L ⟨dst, .slice t x (some p) (some q) (some r), ty, pos, af, gu⟩ w1 v') ∧ Rd w z g o' sz v' (m.map c) := by
  obtain ⟨rfl, h3, h4, h5⟩ := sliG_eq hl
  rcases hr.2 with ⟨hz, hnil, a, cap, rfl⟩ | ⟨hz, cap, rfl, ⟨hg, hcap⟩, hcell⟩
  · have hl0 : l = [] := by simpa using hnil
    subst hl0
    simp only [List.length_nil] at h5
    have e1 : lo = 0 := by omega
    have e2 : hi = 0 := by omega
    subst e1 e2
    refine ⟨_, 0, fun w1 ρ hρ => run_v (by rw [hρ _ _ hx]; exact run_sli3 hρ hu hs hp hq hmx (by omega) (by omega) (by omega)), by simpa using hr.1, .inl ⟨hz, by simp, ?_⟩⟩
    exact ⟨_, _, rfl⟩
  · rw [List.length_map] at hcap hx
    have hlen : ((l.map c).take hi.toNat).length = hi.toNat := by rw [List.length_take, List.length_map]; omega
    have hm : (((l.take hi.toNat).drop lo.toNat).map c) = ((l.map c).take hi.toNat).drop lo.toNat := by rw [List.map_drop, List.map_take]
    have hml : (((l.take hi.toNat).drop lo.toNat).map c).length = hi.toNat - lo.toNat := by rw [hm, List.length_drop, hlen]
    refine ⟨_, if hi.toNat = lo.toNat then o else o + lo.toNat * sz, fun w1 ρ hρ => run_v (by rw [hρ _ _ hx]; exact run_sli3 hρ hu hs hp hq hmx h3 h4 (by omega)), by rw [hm]; exact hr.1.take.drop, .inr ⟨hz, hi.toNat - lo.toNat, ?_, ⟨hg, by rw [hml]; omega⟩, fun j u hj => ?_⟩⟩
    · simp only [sliced, hml]
      by_cases e : hi.toNat = lo.toNat
      · rw [if_pos e, if_pos e]
      · rw [if_neg e, if_neg e]; simp [Addr.add_lit]
    · rw [hm, flat_drop _ _ hr.1.take, flat_take _ _ hr.1, List.getElem?_drop] at hj
      have hj2 : (l.map c).flatten[lo.toNat * sz + j]? = some u := by
        rw [List.getElem?_take] at hj
        split at hj
        · exact hj
        · cases hj
      by_cases e : hi.toNat = lo.toNat
      · exfalso
        rw [List.getElem?_take, e] at hj
        split at hj
        · omega
        · cases hj
      · rw [if_neg e, Nat.add_assoc]; exact hcell _ _ hj2
/-- a part of an owned slice -/
theorem vv_sliV {n : Nat} (hu : P.underlying t = some (.slice e)) (hs : Siz P e sz) (hx : ev L x = some v) (h : Own w z g e sz v (l.map c)) (hp : ev L p = some (.int kl lo)) (hq : ev L q = some (.int kh hi)) (hm : ev L r = some (.int km hi)) (hl : viewG l lo hi = some n) :
    VV P L ⟨dst, .slice t x (some p) (some q) (some r), ty, pos, af, gu⟩ w (.slice (some ⟨g, lo.toNat * sz, none⟩) n n) := fun ρ hρ => by
  unfold viewG at hl
  split at hl
  · rename_i hh
    obtain ⟨h0, h1, h2⟩ := hh
    cases hl
    rcases h.2 with ⟨_, _, h0'⟩ | ⟨hz, cap, cur, rfl, h1', h2', h3⟩
    · have : l = [] := by simpa using h0'
      subst this; simp at h2; omega
    · rw [List.length_map] at h2'
      refine run_v ?_
      rw [hρ _ _ hx]
      show (Instr.sliceAt t (.slice (some ⟨g, 0, none⟩) _ cap) (some (ρ p)) (some (ρ q)) (some (ρ r))).run P w = _
      rw [run_sli3 hρ hu hs hp hq hm h0 (by omega) (by omega)]
      simp only [sliced]
      rw [if_neg (by omega)]
      simp [Addr.add_lit]
      omega
  · cases hl
theorem vv_ixVw {n : Nat} {i j : Int} {k : IntKind} {v : Value} (hv : v = .slice (some ⟨g, lo.toNat * sz, none⟩) n n) (h0 : 0 ≤ lo) (hu : P.underlying t = some (.slice e)) (hs : Siz P e sz) (hx : ev L x = some v) (hy : ev L y = some (.int k i)) (hj : ixG lo n i = some j) :
    VV P L ⟨dst, .indexAddr t x y, ty, pos, af, gu⟩ w (.pointer (some ⟨g, 0 + j.toNat * sz, none⟩)) := by
  unfold ixG at hj
  split at hj
  · rename_i hh
    cases hj
    subst hv
    have := vv_indexAddrS (dst := dst) (ty := ty) (pos := pos) (af := af) (gu := gu) (w := w) hu hs hx hy hh.1 hh.2
    have e : lo.toNat * sz + i.toNat * sz = 0 + (lo + i).toNat * sz := by rw [← Nat.add_mul, Int.toNat_add h0 hh.1]; omega
    rwa [e] at this
  · cases hj
theorem viewG_nn {n : Nat} (hl : viewG l lo hi = some n) : 0 ≤ lo := by
  unfold viewG at hl; split at hl
  · rename_i hh; exact hh.1
  · cases hl
/-- an index in an array that is held -/
theorem vv_ixE {len b' off : Nat} {i : Int} {k : IntKind} (j : Nat) (hu : P.underlying t = some (.array len e)) (hs : Siz P e sz) (hx : ev L x = some (.pointer (some ⟨b', off, none⟩))) (hy : ev L y = some (.int k i)) (h : i = (j : Int)) (hj : j < len) :
    VV P L ⟨dst, .indexAddr t x y, ty, pos, af, gu⟩ w (.pointer (some ⟨b', off + j * sz, none⟩)) := by
  have := vv_indexAddr (dst := dst) (ty := ty) (pos := pos) (af := af) (gu := gu) (w := w) hu hs hx hy (by omega) (by omega)
  rwa [show i.toNat = j from by omega] at this
theorem vv_ixV1 {len : Nat} {i : Int} {k : IntKind} {a : α} {u : Value} {cs : List Value} (hu : P.underlying t = some (.array len e)) (hs : Siz P e 1) (h1 : One P e) (hx : ev L x = some (.agg cs.toArray)) (hcs : cs = (l.map c).flatten) (hl : l.length = len) (hw : Ws 1 (l.map c)) (hy : ev L y = some (.int k i)) (hg : getI l i = some a) (hc : c a = [u]) :
    VV P L ⟨dst, .index t x y, ty, pos, af, gu⟩ w u := fun ρ hρ => by
  have h0 := getI_nn hg
  have h2 := getI_lt hg
  have h2' : i < (len : Int) := by omega
  have hp : (part e cs.toArray (i.toNat * 1)).run P w = .ok u w := by
    have hq : cs[i.toNat]? = some u := by
      have := Ws.at (sz := 1) i.toNat 0 (c a) hw (getm (getI_at hg)) (by omega)
      rw [hcs]; rw [hc] at this; simpa using this
    have hq2 : cs.toArray[i.toNat]? = some u := by simpa using hq
    simp [part, (h1 w).1, hq2]
  rw [Nat.mul_one] at hp
  refine run_v ?_
  rw [hρ _ _ hx, hρ _ _ hy]
  simp [Instr.index, run_underlying hu, asIntOf, h0, h2', hs w, hp]
end
end Go.Sx

end
section
set_option linter.unusedVariables false
set_option linter.unusedSimpArgs false
set_option maxRecDepth 100000
namespace Go.Sx
open Go Go.Sx.Pn
def smN : TNeed := ⟨2, 1, 48, 10, 1, 2, ⟨0#64, 0#64, 0#64⟩⟩
theorem xp_vn : vnB smN = true := by decide +kernel
theorem xp_head : law10_PlanExamples = law10_PlanExamples_J3 true true true := by kernel_rfl
def xpC (l : List Int) : TChoice := ⟨(chN smN 1).Kind, (chN smN 1).Fits, (chN smN 1).Items, (chN smN 1).Points, (chN smN 1).Header, (chN smN 1).Storage, (chN smN 1).Cost, l⟩
theorem xp_a : eqfB smN ((chs smN).set (0 : Int).toNat (xpC [0])) (chs smN) = true := by decide +kernel
theorem xp_b : eqfB smN (((chs smN).set (0 : Int).toNat (xpC [0])).set (0 : Int).toNat (xpC [0, 1])) (chs smN) = false := by decide +kernel
theorem xp_w {l : List TChoice} {x : TChoice} (hl : ∀ c ∈ l, c.Witness.length * 8 ≤ 140737488355328) (hx : x.Witness.length * 8 ≤ 140737488355328) (i : Nat) : ∀ c ∈ l.set i x, c.Witness.length * 8 ≤ 140737488355328 := fun c hc => by
  rcases List.mem_or_eq_of_mem_set hc with h | rfl
  · exact hl c h
  · exact hx
theorem law10_PlanExamples_ok : law10_PlanExamples = some true := by
  rw [xp_head]
  unfold law10_PlanExamples_J3
  have hw0 : ∀ c ∈ chs smN, c.Witness.length * 8 ≤ 140737488355328 := fun c hc => by obtain ⟨k, hk, rfl⟩ := chs_mem hc; have := chs_wit xp_vn hk; omega
  have hw1 := xp_w hw0 (x := xpC [0]) (by show 1 * 8 ≤ _; omega) (0 : Int).toNat
  have hw2 := xp_w hw1 (x := xpC [0, 1]) (by show 2 * 8 ≤ _; omega) (0 : Int).toNat
  rw [show law10_small = some smN from rfl, bind_some, make_ok xp_vn, bind_some, alive10, bind_some, Bool.not_true, cond_false, cond_false, cond_false, cond_false, if_neg (by simp), bind_some]
  show Option.bind (plan_Check smN (plP smN)) _ = _
  rw [pck_self xp_vn, bind_some, decide_eq_false (by simp)]
  unfold law10_PlanExamples_J4
  rw [cond_false]
  show Option.bind (getI (chs smN) 0) _ = _
  rw [show getI (chs smN) 0 = some (chN smN 1) from rfl, bind_some, show law10_small = some smN from rfl, bind_some]
  show Option.bind (plan_Check smN ⟨(chs smN).set (0 : Int).toNat (xpC [0]), (bestP smN).1⟩) _ = _
  rw [pck_eq xp_vn _ hw1 (by show ((chs smN).set (0 : Int).toNat (xpC [0])).length < _; rw [List.length_set]; show 4 < _; omega), if_pos ⟨rfl, xp_a⟩, bind_some]
  show Option.bind (getI ((chs smN).set (0 : Int).toNat (xpC [0])) 0) _ = _
  rw [show getI ((chs smN).set (0 : Int).toNat (xpC [0])) 0 = some (xpC [0]) from rfl, bind_some, if_pos rfl, bind_some]
  show Option.bind (plan_Check smN ⟨((chs smN).set (0 : Int).toNat (xpC [0])).set (0 : Int).toNat (xpC [0, 1]), (bestP smN).1⟩) _ = _
  rw [pck_eq xp_vn _ hw2 (by show (((chs smN).set (0 : Int).toNat (xpC [0])).set (0 : Int).toNat (xpC [0, 1])).length < _; rw [List.length_set, List.length_set]; show 4 < _; omega), if_neg (fun h => by rw [xp_b] at h; cases h.2), bind_some]; rfl
end Go.Sx

end
