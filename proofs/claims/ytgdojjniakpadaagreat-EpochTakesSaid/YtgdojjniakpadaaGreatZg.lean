/- Several texts in one: Tk2 LawTk5. -/
import Derived.Test.YtgdojjniakpadaaGreatZf
import Derived.Test.YtgdojjniakpadaaGreatZd
set_option linter.unusedVariables false
set_option linter.unusedSimpArgs false
section
set_option linter.unusedVariables false
set_option linter.unusedSimpArgs false
set_option maxRecDepth 100000
namespace Go.Sx
open Go Go.Sx.Ep
def zRv : Qw := ⟨⟨0, [], ⟨0#64, 0#64⟩⟩, 0, ⟨⟨false, 0, k0⟩, ⟨false, 0, k0⟩⟩⟩
theorem Xc4 {s : Qs} (h : Bs s = some 0) : 0 ≤ s.Depth ∧ s.Depth ≤ 6 := by
  obtain ⟨r, h1, _, h3⟩ := Qiq s
  rw [h] at h1
  obtain rfl : r = 0 := (Option.some.inj h1).symm
  rcases h3 with ⟨_, h4⟩ | ⟨_, h4, _⟩ | ⟨_, h4⟩
  · cases h4
  · obtain ⟨c1, _⟩ := Qdg s
    rw [h4] at c1
    have hv : Yp s = true := by
      cases hv : Yp s with
      | true => rfl
      | false => rw [hv] at c1; simp at c1
    obtain ⟨d, hd, h6⟩ := Qk6 hv
    omega
  · rcases Po.Mr s with ⟨e1, _⟩ | ⟨e1, _, d, t, p, q, g, V⟩
    · unfold Rf at h4
      rw [e1, bind_some] at h4; simp at h4
    · have := V.depth; have := V.d6; omega
theorem Qpa (s : Qs) {a : Za} (ha : Jo a.Epoch ∧ Jo a.Word ∧ Jo a.Early ∧ Jo a.Drift ∧ Jo a.Delay) : ∃ e, Qay s a = some e ∧ Qcq s a = some e ∧ (e = 0 → VA a ∧ 0 ≤ s.Depth ∧ s.Depth ≤ 6) := by
  obtain ⟨r, h1, h2, h3⟩ := Qiq s
  unfold Qay Qcq Qjj
  rw [h1, h2, bind_some, bind_some]
  by_cases hr : r ≠ 0
  · rw [if_pos hr, if_pos hr]; exact ⟨r, rfl, rfl, fun h => absurd h hr⟩
  · rw [if_neg hr, if_neg hr]
    have hr0 : r = 0 := by omega
    subst hr0
    rcases Qvu ha with ⟨e1, e2⟩ | ⟨e1, e2, V⟩
    · rw [e1, e2]; exact ⟨50, rfl, rfl, fun h => by cases h⟩
    · rw [e1, e2]; exact ⟨0, rfl, rfl, fun _ => ⟨V, Xc4 h1⟩⟩
theorem Xcs (root : W2) (s : Qs) {a : Za} (ha : Jo a.Epoch ∧ Jo a.Word ∧ Jo a.Early ∧ Jo a.Drift ∧ Jo a.Delay) (u h : Int) : ∃ r, Qeb root s a u h = some r ∧ Qgc root s a u h = some r ∧ r.1.Secret.Labels.length ≤ 100 := by
  obtain ⟨e, e1, e2, _⟩ := Qpa s ha
  unfold Qeb Qgc
  rw [e1, e2, bind_some, bind_some]
  by_cases he : e ≠ 0
  · rw [if_pos he, if_pos he]; exact ⟨_, rfl, rfl, by simp⟩
  rw [if_neg he, if_neg he]
  have key : ∀ b, ∃ r, Qaq root s u h b = some r ∧ Qcl root s u h b = some r ∧ r.1.Secret.Labels.length ≤ 100 := fun b => by
    unfold Qaq Qcl
    cases b with
    | true => exact ⟨_, rfl, rfl, by simp⟩
    | false =>
      obtain ⟨x, x1, x2, x3⟩ := Xga root s u
      rw [cond_false, cond_false, x1, x2, bind_some]
      by_cases hx : x.2 ≠ 0
      · rw [if_pos hx]; exact ⟨_, rfl, rfl, by simp⟩
      · rw [if_neg hx]; exact ⟨_, rfl, rfl, x3⟩
  split
  · exact key _
  · exact key _
def Mn (x : Xg) (i : Int) : Bool := if x.Full = true then decide (0 ≤ x.Epoch ∧ x.Epoch ≤ 1099511627776) && decide (x.Epoch.tmod 2 = i) else decide (x = ⟨false, 0, k0⟩)
theorem Qug (x : Xg) (i : Int) : Qcp x i = some (Mn x i) := by
  unfold Qcp Mn
  cases hf : x.Full with
  | false => rw [Bool.not_false, cond_true, if_neg (by simp)]
  | true =>
    obtain ⟨_, t2⟩ := Qoe x.Epoch
    rw [Bool.not_true, cond_false, if_pos rfl, t2, bind_some]
    by_cases ht : 0 ≤ x.Epoch ∧ x.Epoch ≤ 1099511627776
    · rw [decide_eq_true ht, cond_true, Bool.true_and]; rfl
    · rw [decide_eq_false ht, cond_false, Bool.false_and]
theorem Qti (r : Qw) (rec : Int → Option Int) {i : Nat} {x : Xg} (hi : i < 2) (hx : Xt [r.Slots.a0, r.Slots.a1] (i : Int) = some x) : Dd r rec (i : Int) = if Mn x (i : Int) = true then rec ((i + 1 : Nat) : Int) else some 8 := by
  have hJt : Nx (i : Int) rec true = some 8 := rfl
  have hJf : Nx (i : Int) rec false = rec ((i + 1 : Nat) : Int) := by unfold Nx; rw [cond_false, Xu (by omega) (by omega)]; rfl
  unfold Dd Mn
  rw [if_pos (by omega), hx, bind_some]
  cases hf : x.Full with
  | false =>
    rw [Bool.not_false, cond_false, cond_true, if_neg (show ¬ false = true by simp)]
    by_cases hz : x = ⟨false, 0, k0⟩
    · rw [decide_eq_false (by simpa using hz), decide_eq_true hz, if_pos rfl, hJf]
    · rw [decide_eq_true hz, decide_eq_false hz, if_neg (by simp), hJt]
  | true =>
    obtain ⟨t1, _⟩ := Qoe x.Epoch
    rw [cond_true, t1, bind_some, if_pos (show true = true from rfl)]
    by_cases ht : 0 ≤ x.Epoch ∧ x.Epoch ≤ 1099511627776
    · rw [decide_eq_true ht, Bool.not_true, cond_false, show Kv x.Epoch 2 = some (x.Epoch.tmod 2) from rfl, bind_some, Bool.true_and]
      by_cases hm : x.Epoch.tmod 2 = (i : Int)
      · rw [if_neg (by simpa using hm), cond_false, hJf, decide_eq_true hm, if_pos rfl]
      · rw [if_pos hm, hJt, decide_eq_false hm, if_neg (by simp)]
    · rw [decide_eq_false ht, Bool.not_false, cond_true, hJt, Bool.false_and, if_neg (by simp)]
def rcB (a : Za) (s : Qs) (r : Qw) : Prop := -a.Drift ≤ r.Ahead ∧ r.Ahead ≤ a.Drift ∧ Mn r.Slots.a0 0 = true ∧ Mn r.Slots.a1 1 = true
theorem Qpm (s : Qs) {a : Za} (ha : Jo a.Epoch ∧ Jo a.Word ∧ Jo a.Early ∧ Jo a.Drift ∧ Jo a.Delay) (r : Qw) : ∃ e, Qao s a r = some e ∧ Qck s a r = some e ∧ (e = 0 → VA a ∧ rcB a s r) := by
  obtain ⟨e, e1, e2, e3⟩ := Qpa s ha
  unfold Qao Qck
  rw [e1, e2, bind_some, bind_some]
  by_cases he : e ≠ 0
  · rw [if_pos he, if_pos he]; exact ⟨e, rfl, rfl, fun h => absurd h he⟩
  rw [if_neg he, if_neg he]
  obtain ⟨V, d0, d6⟩ := e3 (by omega)
  obtain ⟨w1, w2, _, _, _, y0, r0, dl0, s1, s2⟩ := id V
  have hn : Qi (-a.Drift) = -a.Drift := Xu (by omega) (by omega)
  rw [hn]
  have no : ∀ c : Int, c = 8 → (c = 0 → VA a ∧ rcB a s r) := fun c h h0 => by omega
  by_cases h1 : r.Ahead < -a.Drift
  · rw [if_pos h1, if_pos h1]; exact ⟨8, rfl, rfl, no 8 rfl⟩
  rw [if_neg h1, if_neg h1]
  by_cases h2 : a.Drift < r.Ahead
  · rw [if_pos h2, if_pos h2]; exact ⟨8, rfl, rfl, no 8 rfl⟩
  rw [if_neg h2, if_neg h2]
  by_cases h3 : r.Secret.Receiver < 0
  · rw [if_pos h3, if_pos h3]; exact ⟨8, rfl, rfl, no 8 rfl⟩
  rw [if_neg h3, if_neg h3]
  obtain ⟨d, hd⟩ : ∃ d : Nat, s.Depth = (d : Int) := ⟨s.Depth.toNat, by omega⟩
  have hsh : Jq (d : Int) = some d := by unfold Jq; rw [if_pos (by omega)]; rfl
  have hun : un (wd (d : Int)) = (d : Int) := by
    have : ∀ k : Fin 7, un (wd (k.1 : Int)) = (k.1 : Int) := by decide +kernel
    exact this ⟨d, by omega⟩
  rw [hd, hun, hsh, bind_some, bind_some]
  by_cases h4 : Pc 1 d ≤ r.Secret.Receiver
  · rw [decide_eq_true h4, if_pos h4]; exact ⟨8, rfl, rfl, no 8 rfl⟩
  rw [decide_eq_false h4, if_neg h4, Qug, bind_some]
  unfold El
  have p0 := Qti r (Qr (Dd r) 18446744073709551615) (i := 0) (x := r.Slots.a0) (by omega) rfl
  have p1 := Qti r (Qr (Dd r) 18446744073709551614) (i := 1) (x := r.Slots.a1) (by omega) rfl
  have f0 : Qr (Dd r) Xb 0 = Dd r (Qr (Dd r) 18446744073709551615) ((0 : Nat) : Int) := rfl
  have f1 : Qr (Dd r) 18446744073709551615 ((0 + 1 : Nat) : Int) = Dd r (Qr (Dd r) 18446744073709551614) ((1 : Nat) : Int) := rfl
  have f2 : Qr (Dd r) 18446744073709551614 ((1 + 1 : Nat) : Int) = some 0 := by
    rw [show (18446744073709551614 : Nat) = 18446744073709551613 + 1 from rfl, Zt]
    unfold Dd
    rw [if_neg (by simp)]
  rw [cond_false, f0, p0, f1, p1, f2]
  rw [show ((0 : Nat) : Int) = 0 from rfl, show ((1 : Nat) : Int) = 1 from rfl, Qug]
  cases ha0 : Mn r.Slots.a0 0 with
  | false => rw [if_neg (by simp)]; exact ⟨8, rfl, rfl, no 8 rfl⟩
  | true =>
    rw [if_pos rfl, Bool.not_true, cond_false, bind_some]
    cases ha1 : Mn r.Slots.a1 1 with
    | false => rw [if_neg (by simp)]; exact ⟨8, rfl, rfl, no 8 rfl⟩
    | true => rw [if_pos rfl]; exact ⟨0, rfl, rfl, fun _ => ⟨V, by omega, by omega, ha0, ha1⟩⟩
theorem Qwx (l : List Xn) (h : l.length ≤ 1000) : Qgw l = some l := by
  unfold Qgw
  rw [Vd (by simp; omega), bind_some, List.nil_append]
theorem Qoi (r : Qw) (h : r.Secret.Labels.length ≤ 1000) : Ir r = some r := by
  unfold Ir
  rw [Vd (by simp; omega), bind_some, List.nil_append]
theorem Qt6 {e : Int} (h : 0 ≤ e) : ∃ i, Kv e 2 = some i ∧ (i = 0 ∨ i = 1) := ⟨e.tmod 2, rfl, by rw [Int.tmod_eq_emod_of_nonneg h]; omega⟩
theorem Quu {x y : Xg} {i : Int} (h : i = 0 ∨ i = 1) : ∃ z, Xt [x, y] i = some z := by rcases h with rfl | rfl <;> exact ⟨_, rfl⟩
theorem Xch (s : Qs) {a : Za} (V : VA a) (r : Qw) (p : Ze) {t : Int} (ht : 0 ≤ t ∧ t ≤ 1099511627776) (hah : -a.Drift ≤ r.Ahead ∧ r.Ahead ≤ a.Drift) (hv : Bj p) (hl : r.Secret.Labels.length ≤ 1000) (hcl : ∀ x ∈ r.Secret.Labels, Fa x) :
    ∃ x, Qeh s a r p (Qi (t + r.Ahead)) = some x ∧ Qgo s a r p t = some (if x.1 ≠ 0 then (zRv, x.1) else (x.2, 0)) ∧ x.2.Secret = r.Secret ∧ x.2.Ahead = r.Ahead := by
  obtain ⟨⟨v1, v2⟩, v3, v4, v5, v6, v7, v8⟩ := id hv
  obtain ⟨w1, w2, _, _, _, y0, r0, dl0, s1, s2⟩ := id V
  have hw : Qi (t + r.Ahead) = t + r.Ahead := Xu (by omega) (by omega)
  unfold Qeh Qgo
  rw [hw]
  obtain ⟨i, hi, hi2⟩ := Qt6 (e := p.Epoch) v1
  obtain ⟨z, hz⟩ := Quu (x := r.Slots.a0) (y := r.Slots.a1) hi2
  obtain ⟨b, b1, b2⟩ := Xhb V (l := t + r.Ahead) (by omega) (by omega) v1 v2
  rw [hi, bind_some, hz, bind_some, b1, bind_some, b2, bind_some]
  cases b with
  | false => exact ⟨(51, r), rfl, rfl, rfl, rfl⟩
  | true =>
    rw [Bool.not_true, cond_false, cond_false, bind_some, hz, bind_some]
    have key : ∀ c, ∃ x, Qaz s r p i c = some x ∧ Qcr s r p c = some (if x.1 ≠ 0 then (zRv, x.1) else (x.2, 0)) ∧ x.2.Secret = r.Secret ∧ x.2.Ahead = r.Ahead := fun c => by
      unfold Qaz Qcr
      cases c with
      | true => exact ⟨(52, r), rfl, rfl, rfl, rfl⟩
      | false =>
        obtain ⟨o, o1, o2⟩ := Xdm s r.Secret p.Head (by omega) hcl (by omega) (by omega)
        rw [cond_false, cond_false, o1, o2, bind_some, bind_some]
        unfold Qi7
        by_cases ho : o.2 ≠ 0
        · rw [if_pos ho, if_pos ho]; exact ⟨(o.2, r), rfl, by rw [if_pos ho]; rfl, rfl, rfl⟩
        · rw [if_neg ho, if_neg ho]
          obtain ⟨m1, m2⟩ := Xbj o.1 p v6 v7 (by rw [v5]; simp)
          rw [m1, m2, bind_some, bind_some]
          generalize Ac (Jk o.1 (Xf 52#8) (wd p.Epoch)) (Lq p) = mm
          by_cases hm : mm ≠ p.Mac
          · rw [if_pos hm, if_pos hm]; exact ⟨(53, r), rfl, rfl, rfl, rfl⟩
          · rw [if_neg hm, if_neg hm, Qoi r hl, bind_some, hi, bind_some, hz, bind_some]
            exact ⟨(0, _), rfl, rfl, rfl, rfl⟩
    cases z.Full with
    | false => rw [cond_false, cond_false]; exact key _
    | true => rw [cond_true, cond_true]; exact key _
theorem Xec {a : Za} (V : VA a) (r : Qw) (p : Ze) {t : Int} (ht : 0 ≤ t ∧ t ≤ 1099511627776) (hah : -a.Drift ≤ r.Ahead ∧ r.Ahead ≤ a.Drift) (hv : Bi p) :
    ∃ x, Qej a r p (Qi (t + r.Ahead)) = some x ∧ Qge a r p t = some x ∧ x.1.length ≤ 1000 := by
  obtain ⟨v1, v2, v3, v4⟩ := id hv
  obtain ⟨w1, w2, ep1, ep2, ep3, y0, r0, dl0, s1, s2⟩ := id V
  obtain ⟨n1, n2, n3, n4, n5⟩ := id v4
  have hw : Qi (t + r.Ahead) = t + r.Ahead := Xu (by omega) (by omega)
  have hsm : Sm p := ⟨by rw [n1]; simp, by rw [n2]; simp, by omega⟩
  have hbl := Qp4 (p := p) (by rw [n1]; simp) (by rw [n2]; simp) (by omega)
  unfold Qej Qge
  rw [hw]
  obtain ⟨c, b, c1, c2, c3⟩ := Xds V (l := t + r.Ahead) (by omega) (by omega) v2
  rw [c1, c2, bind_some, bind_some]
  cases b with
  | false => rw [Bool.not_false, cond_true, if_neg (show ¬ false = true by simp), if_pos (by decide)]; exact ⟨_, rfl, rfl, by simp⟩
  | true =>
    obtain ⟨g0, g1, g2⟩ := c3 rfl
    rw [Bool.not_true, cond_false, if_pos (show true = true from rfl), if_neg (by omega)]
    have hW : 0 < a.Word := by omega
    have hE : 0 < a.Epoch := by omega
    obtain ⟨m, hm⟩ : ∃ m, a.Epoch = m * a.Word := by
      have h0 : a.Epoch % a.Word = 0 := by rw [← Int.tmod_eq_emod_of_nonneg (by omega)]; exact ep3
      exact ⟨a.Epoch / a.Word, (Int.ediv_mul_cancel (Int.dvd_of_emod_eq_zero h0)).symm⟩
    have hm0 : 0 < m := by
      rcases (show 0 < m ∨ m ≤ 0 by omega) with h | h
      · exact h
      · have := Int.mul_nonneg (show 0 ≤ -m by omega) (show 0 ≤ a.Word by omega)
        rw [Int.neg_mul] at this; omega
    have e1 : a.Epoch / a.Word = m := by rw [hm, Int.mul_ediv_cancel _ (by omega)]
    have e2 : c * a.Word / a.Epoch = c / m := by rw [hm, Int.mul_ediv_mul_of_pos_left _ _ hW]
    have hmle : m ≤ a.Epoch := by rw [← e1]; exact Int.ediv_le_self _ (by omega)
    have hcle : c ≤ c * a.Word := by have := Int.mul_le_mul_of_nonneg_left w1 g0; omega
    simp only
    rw [Qfi (a := a.Epoch) (by omega) (by omega) hW, bind_some, e1, Qfi g0 (by omega) hm0, bind_some, Xu (n := c * a.Word) (by omega) (by omega), Qfi g1 (by omega) hE, bind_some, e2]
    have q0 : 0 ≤ c / m := Int.ediv_nonneg g0 (by omega)
    obtain ⟨i, hi, hi2⟩ := Qt6 q0
    obtain ⟨z, hz⟩ := Quu (x := r.Slots.a0) (y := r.Slots.a1) hi2
    rw [hi, bind_some, hz, bind_some, bind_some, hz, bind_some]
    have key : ∀ k, ∃ x, Qb0 p (c, true) z k = some x ∧ Qcm p c z k = some x ∧ x.1.length ≤ 1000 := fun k => by
      unfold Qb0 Qcm
      cases k with
      | true => exact ⟨_, rfl, rfl, by simp⟩
      | false =>
        rw [cond_false, cond_false]
        have hWd : Qi6 z.Key c = Qgm z.Key c := rfl
        obtain ⟨wo, hwo⟩ : ∃ wo, Qgm z.Key c = some wo := ⟨_, rfl⟩
        simp only
        rw [hWd, hwo, bind_some, bind_some, Qp9 p hsm, Qto p hsm, bind_some, bind_some, Qsi _ _ hbl, Qv2 _ _ (by omega), bind_some, bind_some]
        unfold Qi8
        rw [if_neg (by simp)]
        simp only
        by_cases hmm : Ac wo (Lq p) ≠ p.Mac
        · rw [if_pos hmm, if_pos hmm]; exact ⟨_, rfl, rfl, by simp⟩
        · rw [if_neg hmm, if_neg hmm, Xgw _ _ _ (by omega), Xfz _ _ _ (by omega), bind_some, bind_some]
          exact ⟨_, rfl, rfl, by simp only; rw [Qcy]; omega⟩
    cases z.Full with
    | false => rw [Bool.not_false, cond_true, cond_true]; exact key _
    | true => rw [Bool.not_true, cond_false, cond_false]; exact key _
theorem Xh7 (s : Qs) {a : Za} (ha : Jo a.Epoch ∧ Jo a.Word ∧ Jo a.Early ∧ Jo a.Drift ∧ Jo a.Delay) (r : Qw) (p : Ze) (t : Int) (hl : r.Secret.Labels.length ≤ 1000) (hcl : ∀ x ∈ r.Secret.Labels, Fa x) (hi : p.Head.Items.length < 4611686018427387904) :
    ∃ x, Qee s a r p t = some x ∧ Qgj s a r p t = some x ∧ x.1.Secret.Labels.length ≤ 1000 ∧ x.2.1.length ≤ 1000 := by
  obtain ⟨e, e1, e2, e3⟩ := Qpm s ha r
  unfold Qee Qgj
  have hJ : ∀ c : Int, c ≠ 0 → Bt s a r p t c = some (zRv, [], c) := fun c hc => by
    unfold Bt; rw [if_pos hc]; rfl
  have hJ4t : ∀ c : Int, Bu s a r p t c true = some (zRv, [], 2) := fun c => by
    unfold Bu; rw [cond_true]; exact hJ 2 (by decide)
  have hJ4f : ∀ c : Int, Bu s a r p t c false = Bt s a r p t c := fun c => by unfold Bu; rw [cond_false]
  have hz : zRv.Secret.Labels.length ≤ 1000 := by simp [zRv]
  rw [e1, e2, bind_some, bind_some]
  by_cases he : e = 0
  · rw [if_pos he, if_neg (by simpa using he), Qwn p hi, Xeb p hi, bind_some, bind_some]
    obtain ⟨V, c1, c2, c3, c4⟩ := e3 he
    unfold Qat
    by_cases hv : VP p
    · rw [if_pos hv, if_pos rfl, decide_eq_true hv, Bool.not_true, cond_false]
      obtain ⟨t1, t2⟩ := Qoe t
      rw [t1, t2, bind_some, bind_some]
      by_cases ht : 0 ≤ t ∧ t ≤ 1099511627776
      · rw [decide_eq_true ht, Bool.not_true, cond_false, hJ4f]
        unfold Bt
        rw [if_neg (by simp), Qwx _ hl, bind_some]
        rcases id hv with ⟨hk, hh⟩ | ⟨hk, hh⟩
        · rw [if_pos hk, if_pos hk]
          obtain ⟨x, x1, x2, x3, x4⟩ := Xch s V r p ht ⟨c1, c2⟩ hh hl hcl
          have hr : Qw.mk (Qq.mk r.Secret.Receiver r.Secret.Labels r.Secret.Share) r.Ahead r.Slots = r := rfl
          rw [hr, x1, x2, bind_some, bind_some]
          unfold Qau
          by_cases hx : x.1 ≠ 0
          · rw [if_pos hx, if_pos hx]; exact ⟨_, rfl, rfl, hz, by simp⟩
          · rw [if_neg hx, if_neg hx]
            refine ⟨(x.2, [], 0), ?_, rfl, by rw [x3]; exact hl, by simp⟩
            obtain ⟨xe, ⟨⟨ra, la, sa⟩, aha, sla⟩⟩ := x
            simp only at x3 x4 ⊢
            rw [← congrArg Qq.Labels x3]
        · have hk1 : p.Kind ≠ 1#8 := by rw [hk]; decide
          rw [if_neg hk1, if_neg hk1]
          obtain ⟨x, x1, x2, x3⟩ := Xec V r p ht ⟨c1, c2⟩ hh
          have hr : Qw.mk (Qq.mk r.Secret.Receiver r.Secret.Labels r.Secret.Share) r.Ahead r.Slots = r := rfl
          rw [hr, x1, x2, bind_some, bind_some]
          unfold Qau
          by_cases hx : x.2 ≠ 0
          · rw [if_pos hx, if_pos hx]; exact ⟨_, rfl, rfl, hz, by simp⟩
          · rw [if_neg hx, if_neg hx, Qoi r hl, bind_some]; exact ⟨_, rfl, rfl, hl, x3⟩
      · rw [decide_eq_false ht, Bool.not_false, cond_true, hJ4t]; exact ⟨_, rfl, rfl, hz, by simp⟩
    · rw [if_neg hv, if_neg (by decide), decide_eq_false hv, Bool.not_false, cond_true, hJ4f, hJ 8 (by decide)]; exact ⟨_, rfl, rfl, hz, by simp⟩
  · rw [if_neg he, if_pos he]
    unfold Qat
    rw [if_neg he, hJ4f, hJ e he]; exact ⟨_, rfl, rfl, hz, by simp⟩
end Go.Sx

end
section
set_option linter.unusedVariables false
set_option linter.unusedSimpArgs false
set_option maxRecDepth 100000
namespace Go.Sx
open Go Go.Sx.Ep
theorem Qoa (r : Qw) (h : r.Secret.Labels.length ≤ 1000) : Iq r r = some true := by
  unfold Iq
  rw [Xg6 _ (by omega), bind_some, cond_true, if_pos rfl, decide_eq_true rfl]
theorem Xh9 (r : Qw) (p : Ze) (x : Qw × By × Int) (h : r.Secret.Labels.length ≤ 1000) (h1 : x.1.Secret.Labels.length ≤ 1000) (h2 : x.2.1.length ≤ 1000) : Se r p r x true = some true := by
  unfold Se
  refine Dz _ (fun j s => s.1 = (j : Int) ∧ s.2.length = x.1.Secret.Labels.length) x.1.Secret.Labels.length _ (by omega) ⟨rfl, rfl⟩ ?_ ?_
  · rintro j ⟨i, l⟩ hj ⟨k1, k2⟩
    simp only at k1 k2
    subst k1
    refine ⟨(((j + 1 : Nat) : Int), l.set j ⟨-7, l[j].Minus, l[j].Key⟩), ⟨rfl, by simp [k2]⟩, fun rec => ?_⟩
    unfold Qbc
    simp only
    rw [if_pos (by omega), Kd (show j < l.length by omega), bind_some, Xu (by omega) (by omega), Int.toNat_natCast]; rfl
  · rintro ⟨i, l⟩ ⟨k1, k2⟩ rec
    simp only at k1; subst k1
    unfold Qbc
    simp only
    rw [if_neg (by omega)]
    refine Dz _ (fun j s => s.2 = (j : Int) ∧ s.1.length = x.2.1.length) x.2.1.length _ (by omega) ⟨rfl, rfl⟩ ?_ ?_
    · rintro j ⟨l, i⟩ hj ⟨k1, k2⟩
      simp only at k1 k2
      subst k1
      refine ⟨(l.set j (l[j] + 1#8), ((j + 1 : Nat) : Int)), ⟨rfl, by simp [k2]⟩, fun rec => ?_⟩
      unfold Qbd
      simp only
      rw [if_pos (by omega), Kd (show j < l.length by omega), bind_some, bind_some, Xu (by omega) (by omega), Int.toNat_natCast]; rfl
    · rintro ⟨l, i⟩ ⟨k1, k2⟩ rec
      simp only at k1; subst k1
      unfold Qbd
      simp only
      rw [if_neg (by omega), cond_true, Qoa r h, bind_some, cond_true]; rfl
theorem Xcd (root : W2) (s : Qs) (a : Za) (r : Qw) (p : Ze) (t : Int) (hs : s.ok) (ha : a.ok) (hr : r.ok) (hp : p.ok) (ht : Jo t) : Qis root s a r p t = some true := by
  unfold Qis Qjk
  by_cases k2 : (100 : Int) < (r.Secret.Labels.length : Int)
  · rw [if_pos k2, bind_some]; rfl
  rw [if_neg k2]
  by_cases k3 : (100 : Int) < (p.Head.Items.length : Int)
  · rw [if_pos k3, bind_some]; rfl
  rw [if_neg k3]
  by_cases k4 : (50 : Int) < (p.Head.Points.length : Int)
  · rw [if_pos k4, bind_some]; rfl
  rw [if_neg k4, bind_some]
  by_cases k5 : (1000 : Int) < (p.Data.length : Int)
  · rw [decide_eq_true k5]; rfl
  rw [decide_eq_false k5, cond_false]
  have hl : r.Secret.Labels.length ≤ 1000 := by omega
  have hcl : ∀ x ∈ r.Secret.Labels, Fa x := hr.1.2.1
  obtain ⟨x, x1, x2, x3⟩ := Xcs root s ha r.Secret.Receiver r.Ahead
  obtain ⟨y, y1, y2, y3, y4⟩ := Xh7 s ha r p t hl hcl (by omega)
  obtain ⟨e, e1, e2, _⟩ := Qpm s ha r
  rw [Qoi r hl, bind_some, x1, x2, bind_some, bind_some, y1, y2, bind_some, bind_some, Qoa _ (by omega), bind_some, cond_true, if_pos rfl, e1, e2, bind_some, bind_some, if_pos rfl, Qoa _ y3, bind_some, cond_true, if_pos rfl, decide_eq_true rfl]
  exact Xh9 r p y hl y3 y4
end Go.Sx

end
