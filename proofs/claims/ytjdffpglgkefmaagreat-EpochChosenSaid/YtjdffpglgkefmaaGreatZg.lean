/- Several texts in one: Og Oh De Oi Ko5 LawCh5. -/
import Derived.Test.YtjdffpglgkefmaaGreatZf
import Derived.Test.YtjdffpglgkefmaaGreatZc
import Derived.Test.YtjdffpglgkefmaaGreatZd
set_option linter.unusedVariables false
set_option linter.unusedSimpArgs false
section
set_option linter.unusedVariables false
set_option linter.unusedSimpArgs false
set_option linter.unusedSectionVars false
set_option maxRecDepth 100000
namespace Go.Sx.Po
open Go
section
variable {p q g : Nat}
theorem Xuq (h : Qwn p q g) : 2 ≤ p := by have := h.2.2.2.1; have := h.2.2.2.2.1; omega
theorem Xm1 (h : Qwn p q g) (k : Nat) : g ^ (q * k) % p = 1 := by
  rw [Nat.pow_mul, Nat.pow_mod, h.2.2.2.2.2, Nat.one_pow, Nat.mod_eq_of_lt (by have := Xuq h; omega)]
theorem Xlq (h : Qwn p q g) (n : Nat) : g ^ n % p = g ^ (n % q) % p := by
  conv => lhs; rw [← Nat.div_add_mod n q, Nat.pow_add, Nat.mul_mod, Xm1 h, Nat.one_mul, Nat.mod_mod]
theorem Xff (h : Qwn p q g) {a b : Nat} (e : a % q = b % q) : g ^ a % p = g ^ b % p := by rw [Xlq h a, Xlq h b, e]
theorem Xsg (h : Qwn p q g) {n : Nat} (e : g ^ n % p = 1) : n % q = 0 := by
  have hq := h.2.1.2.1
  have q2 := h.2.1.1
  have hg := h.2.2.2.1
  have hgp := h.2.2.2.2.1
  haveI : NeZero q := ⟨by omega⟩
  refine Decidable.byContradiction fun hn => ?_
  have hne : fi q n ≠ 0 := fun h0 => hn (by have := congrArg Fin.val h0; rw [Qq9] at this; exact this)
  have h1 : fi q n * iv (fi q n) = 1 := (Qnv h.2.1.2 q2 hne).1
  have h2 : fi q (n * (iv (fi q n)).val) = fi q 1 := by rw [Quj, Qmo, h1, Xuv]
  have h3 : n * (iv (fi q n)).val % q = 1 % q := by have := congrArg Fin.val h2; rw [Qq9, Qq9] at this; exact this
  have h4 := Xff h h3
  rw [Nat.pow_one, Nat.mod_eq_of_lt hgp, Nat.pow_mul, Nat.pow_mod, e, Nat.one_pow, Nat.mod_eq_of_lt (by omega)] at h4
  omega
theorem Xm3 (h : Qwn p q g) (n : Nat) : g ^ n % p ≠ 0 := fun e => by
  have hq := h.2.1.2.1
  have e1 : g ^ (n + n * (q - 1)) % p = 1 := by
    rw [show n + n * (q - 1) = q * n from by rw [Nat.mul_sub_one, Nat.mul_comm q n]; have := Nat.le_mul_of_pos_right n (show 0 < q by omega); omega]; exact Xm1 h n
  rw [Nat.pow_add, Nat.mul_mod, e, Nat.zero_mul, Nat.zero_mod] at e1
  exact absurd e1 (by decide)
end
section
variable {s : Qa8} {d t p q g : Nat}
theorem Qy0 (root : W2) (nonce : BitVec 64) (n : Nat) : Qpq root p q g nonce ^ n % p = g ^ (rN root q nonce * n) % p := by
  unfold Qpq; rw [← Nat.pow_mod, ← Nat.pow_mul]
theorem Xka (h : Vld s d t p q g) (root : W2) (nonce : BitVec 64) : 2 ≤ Qpq root p q g nonce := by
  obtain ⟨r1, r2⟩ := Xf8 h root nonce
  have h0 := Xm3 h.ok (rN root q nonce)
  have h1 : g ^ rN root q nonce % p ≠ 1 := fun e => by
    have := Xsg h.ok e
    rw [Nat.mod_eq_of_lt r2] at this; omega
  unfold Qpq; omega
theorem Xei (root : W2) (s : Qa8) (l : List Int) (hl : l.length < 4611686018427387904) (session : W2) (nonce : BitVec 64) :
    (Qkk s = some false ∧ ∃ r, Qet root s l session nonce = some (r, 30)) ∨
    ∃ d t p q g, Vld s d t p q g ∧ Qd9 s = some true ∧ Qkk s = some true ∧ ((∃ r, Qt3 d l = false ∧ Qet root s l session nonce = some (r, 2)) ∨ (∃ r, Qt3 d l = true ∧ t < l.length ∧ Qet root s l session nonce = some (r, 4)) ∨
      ∃ ln : List Nat, l = ln.map (fun n : Nat => (n : Int)) ∧ Qt3 d l = true ∧ (∀ n ∈ ln, n < 2 ^ d) ∧ ln.Pairwise (· < ·) ∧ ln.length ≤ t ∧ Qet root s l session nonce = some (hdN root d t p q g ln session nonce, 0)) := by
  rcases Qoz s with ⟨e1, e2⟩ | ⟨e1, e2, d, t, p, q, g, h⟩
  · refine .inl ⟨e2, ⟨[], 0#64, [], k0, k0⟩, ?_⟩
    unfold Qet; rw [e1, bind_some]; rfl
  · refine .inr ⟨d, t, p, q, g, h, e1, e2, ?_⟩
    cases hb : Qt3 d l with
    | false =>
      refine .inl ⟨⟨[], 0#64, [], k0, k0⟩, rfl, ?_⟩
      unfold Qet; rw [e1, bind_some]; simp only [Bool.not_true, cond_false]; rw [Qts h root l session nonce hl, hb]; rfl
    | true =>
      by_cases hlen : s.Degree < (l.length : Int)
      · refine .inr (.inl ⟨⟨[], 0#64, [], k0, k0⟩, rfl, by rw [h.deg] at hlen; omega, ?_⟩)
        unfold Qet; rw [e1, bind_some]; simp only [Bool.not_true, cond_false]; rw [Qts h root l session nonce hl, hb, cond_true, if_pos hlen]
      · obtain ⟨ln, rfl, h1, h2⟩ := Xom hb
        rw [h.deg] at hlen
        have h3 : ln.length ≤ t := by simp at hlen; omega
        exact .inr (.inr ⟨ln, rfl, rfl, h1, h2, h3, Quw h e1 root h1 h2 h3 session nonce⟩)
theorem Xv5 [NeZero q] (h : Vld s d t p q g) (root : W2) : fN root q t 0 = (evF (cfF root q t) 0).val := by
  have := Xdj (t := t) root 0 (show 0 < q by have := h.qb; omega)
  rw [this, Xul]
end
end Go.Sx.Po

end
section
set_option linter.unusedVariables false
set_option linter.unusedSimpArgs false
set_option linter.unusedSectionVars false
set_option maxRecDepth 100000
namespace Go.Sx.Po
open Go
section
variable {q : Nat} [NeZero q] (X Y : Nat → Fin q)
theorem Xri (hP : Prm q) (q2 : q ≤ 1048575) {a : Fin q} (h : a ≠ 0) : iv (-a) = -(iv a) := by
  have h1 := (Qnv hP q2 h).1
  have hn : -a ≠ 0 := fun e => h (by grind)
  have h2 := (Qnv hP q2 hn).1
  have h3 : iv a * (-a * iv (-a)) = iv a := by rw [h2]; grind
  grind
theorem Xpm (hP : Prm q) (q2 : q ≤ 1048575) (j n : Nat) (hne : ∀ k, k < n → k ≠ j → X k - X j ≠ 0) : ∀ k, k ≤ n → evF (Xen X Y j k) 0 = Y j * Xef X j k
  | 0, _ => by simp only [Xen, Qdh, Qp4, Xef]; grind
  | k + 1, h => by
    have ih := Xpm hP q2 j n hne k (by omega)
    simp only [Xen, Xef]
    by_cases e : k = j
    · rw [if_pos e, if_pos e]; exact ih
    · have hk := hne k (by omega) e
      have h1 : iv (X j - X k) = -(iv (X k - X j)) := by rw [← Xri hP q2 hk]; congr 1; grind
      rw [if_neg e, if_neg e, Qsq, Xp2, Xbw, ih, h1]; grind
noncomputable def Xl3 (n : Nat) : Nat → Fin q
  | 0 => 0
  | j + 1 => Xl3 n j + Y j * Xef X j n
theorem Xst (hP : Prm q) (q2 : q ≤ 1048575) (n : Nat) (hne : ∀ k j, k < n → j < n → k ≠ j → X k - X j ≠ 0) : ∀ j, j ≤ n → evF (Xil X Y n j) 0 = Xl3 X Y n j
  | 0, _ => by simp only [Xil, Xl3]; rw [Qvv]
  | j + 1, h => by
    have hb := Qux X Y j n
    rw [if_pos (by omega)] at hb
    simp only [Xil, Xl3]
    rw [Xbg _ _ _ (by rw [Quy X Y n j (by omega), hb]), Xst hP q2 n hne j (by omega), Xpm X Y hP q2 j n (fun k hk he => hne k j hk (by omega) he) n (Nat.le_refl _)]
theorem Xj4 (hP : Prm q) (q2 : q ≤ 1048575) (f : List (Fin q)) (hne : ∀ k j, k < f.length → j < f.length → k ≠ j → X k - X j ≠ 0) (hY : ∀ k, k < f.length → Y k = evF f (X k)) : Xl3 X Y f.length f.length = evF f 0 := by
  have hne' : ∀ k j, k < f.length → j < f.length → k ≠ j → X j - X k ≠ 0 := fun k j hk hj h => hne j k hj hk (Ne.symm h)
  rw [← Xst X Y hP q2 f.length hne f.length (Nat.le_refl _)]
  congr 1
  have hs : (seg X 0 f.length).length = f.length := by simp [seg]
  refine Xjo hP q2 (Xf2 X (a := 0) (b := f.length) (Nat.le_refl _) hne') (by rw [Quy X Y _ _ (Nat.le_refl _), hs]) (by rw [hs]) fun x hx => ?_
  obtain ⟨j, hj, rfl⟩ := List.mem_map.1 hx
  have hj' := List.mem_range'_1.1 hj
  rw [Xlh X Y hP q2 _ j (by omega) hne' _ (Nat.le_refl _), if_pos (by omega), hY j (by omega)]
theorem Xq1 {p g r : Nat} (h : Qwn p q g) (Z : Nat → Nat) (n : Nat) (hZ : ∀ k, k < n → Z k = g ^ (r * (Y k).val) % p) : ∀ j, j ≤ n → ∃ e, zF p X Z n j = g ^ (r * e) % p ∧ fi q e = Xl3 X Y n j
  | 0, _ => ⟨0, by simp only [zF, Nat.mul_zero, Nat.pow_zero]; rw [Nat.mod_eq_of_lt (by have := Xuq h; omega)], by simp only [Xl3, Xul]⟩
  | j + 1, hj => by
    obtain ⟨e, h1, h2⟩ := Xq1 h Z n hZ j (by omega)
    refine ⟨e + (Y j).val * (Xef X j n).val, ?_, ?_⟩
    · simp only [zF]
      rw [h1, hZ j (by omega), ← Nat.pow_mod, ← Nat.pow_mul, ← Nat.mul_mod, ← Nat.pow_add, Nat.mul_add, Nat.mul_assoc]
    · simp only [Xl3]
      rw [Xau, Quj, Qmo, Qmo, h2]
end
end Go.Sx.Po

end
section
set_option linter.unusedVariables false
set_option linter.unusedSimpArgs false
set_option maxRecDepth 100000
namespace Go.Sx.Po
open Go
theorem Qpv (x : BitVec 64) (n m : Nat) (h : n + m = 64) (hn : 0 < n) (hm : 0 < m) : Xbf (Xbf x n) m = x := by
  unfold Xbf
  apply BitVec.eq_of_getLsbD_eq
  intro i hi
  simp only [BitVec.getLsbD_or, BitVec.getLsbD_shiftLeft, BitVec.getLsbD_ushiftRight]
  by_cases h1 : i < m
  · have h2 : ¬ (64 - m + i < n) := by omega
    have h3 : 64 - m + i < 64 := by omega
    have h4 : 64 - m + i - n = i := by omega
    have h5 : 64 ≤ 64 - n + (64 - m + i) := by omega
    rw [h4, BitVec.getLsbD_of_ge x _ h5]
    simp [h1, hi, h2, h3]
  · have h2 : i - m < n := by omega
    have h3 : 64 - n + (i - m) = i := by omega
    have h4 : 64 ≤ 64 - m + i := by omega
    have h6 : ¬ 64 - m + i < 64 := by omega
    have h7 : 64 ≤ 64 - n + (64 - m + i) := by omega
    rw [h3, BitVec.getLsbD_of_ge x _ h7]
    simp [h1, hi, h2, h6]
theorem Qyl (p : W2) (k : BitVec 64) : Xcy (rnd p k) k = p := by
  obtain ⟨a, b⟩ := p
  unfold Xcy rnd
  simp only
  have h1 : ∀ x y : BitVec 64, x ^^^ (y ^^^ x) = y := fun x y => by rw [BitVec.xor_comm y x, ← BitVec.xor_assoc, BitVec.xor_self, BitVec.zero_xor]
  have h2 : ∀ x y : BitVec 64, (x ^^^ y) ^^^ y = x := fun x y => by rw [BitVec.xor_assoc, BitVec.xor_self, BitVec.xor_zero]
  rw [h1, h2, Qpv b 3 61 (by omega) (by omega) (by omega), BitVec.add_sub_cancel, Qpv a 56 8 (by omega) (by omega) (by omega)]
theorem Xsn (K : Nat → BitVec 64) : ∀ (n : Nat) (b : W2), (List.range n).foldl (fun p i => Xcy p (K (n - 1 - i))) ((List.range n).foldl (fun p i => rnd p (K i)) b) = b
  | 0, b => rfl
  | n + 1, b => by
    rw [show (List.range (n + 1)).foldl (fun p i => rnd p (K i)) b = rnd ((List.range n).foldl (fun p i => rnd p (K i)) b) (K n) from by rw [List.range_succ, List.foldl_append]; rfl]
    rw [List.range_succ_eq_map, List.foldl_cons, show n + 1 - 1 - 0 = n from rfl, Qyl, List.foldl_map]
    have := Xsn K n b
    rw [show (fun (p : W2) (i : Nat) => Xcy p (K (n + 1 - 1 - i.succ))) = fun p i => Xcy p (K (n - 1 - i)) from by funext p i; congr 2; omega]
    exact this
theorem Qwu (k b : W2) : Xex k (Qw4 k b) = b := Xsn (fun i => (ks k i).2) 32 b
end Go.Sx.Po

end
section
set_option linter.unusedVariables false
set_option linter.unusedSimpArgs false
set_option linter.unusedSectionVars false
set_option maxRecDepth 100000
namespace Go.Sx.Po
open Go
section
variable {s : Qa8} {d t p q g : Nat}
theorem Xso (h : Vld s d t p q g) (root : W2) (nonce : BitVec 64) (n : Nat) : 1 ≤ Qpq root p q g nonce ^ n % p := by
  rw [Qy0]; have := Xm3 h.ok (rN root q nonce * n); omega
theorem Xqx (root : W2) (b : Nat) (l : List Nat) : (l.map (ptN root p q t b)).map (·.X) = l.map bn := by rw [List.map_map]; rfl
theorem Xdk {l : List Nat} (hq : q ≤ 1048575) (hl : ∀ x ∈ l, x < q) (h : l.Nodup) : (l.map bn).Nodup := by
  rw [List.Nodup, List.pairwise_map]
  refine List.Pairwise.imp_of_mem (fun ha hb hne e => hne ((Qqf (by have := hl _ ha; omega) (by have := hl _ hb; omega)).1 e)) h
theorem Xd4 {ln : List Nat} (hl : ∀ n ∈ ln, n < 2 ^ d) (ho : ln.Pairwise (· < ·)) : (xsN d t ln).Nodup := by
  unfold xsN
  rw [List.nodup_append]
  refine ⟨?_, ?_, ?_⟩
  · rw [List.Nodup, List.pairwise_map]; exact ho.imp fun {a b} hab e => by omega
  · rw [List.Nodup, List.pairwise_map]; exact List.nodup_range.imp fun {a b} hab e => hab (by omega)
  · intro a ha b hb e
    obtain ⟨n, hn, rfl⟩ := List.mem_map.1 ha
    obtain ⟨m, _, rfl⟩ := List.mem_map.1 hb
    have := hl n hn; omega
theorem Xjt (h : Vld s d t p q g) (root : W2) {ln : List Nat} (hl : ∀ n ∈ ln, n < 2 ^ d) (ho : ln.Pairwise (· < ·)) (hlen : ln.length ≤ t) (session : W2) (nonce : BitVec 64) : hdB s (hdN root d t p q g ln session nonce) = true := by
  obtain ⟨q1, q2⟩ := h.qb
  obtain ⟨p1, p2⟩ := h.pb
  have hb := Qy8 h root nonce
  have hb2 := Xka h root nonce
  have hx : ∀ x ∈ xsN d t ln, 1 ≤ x ∧ x < q := fun x hx => Xpx h hl hx
  unfold hdB hdN
  simp only [Bool.and_eq_true, decide_eq_true_eq, h.grp, h.deg]
  refine ⟨⟨⟨⟨⟨trivial, ?_⟩, ?_⟩, ?_⟩, ?_⟩, ?_⟩
  · exact (Qsk (a := 1) (by omega) (by omega)).2 (by omega)
  · exact (Ql5 (by omega) (by omega)).2 hb
  · rw [List.length_map, Qvj hlen]
  · unfold Xi2
    rw [Xqx]; exact decide_eq_true (Xdk q2 (fun x hh => (hx x hh).2) (Xd4 hl ho))
  · rw [List.all_eq_true]
    intro x hh
    obtain ⟨y, hy, rfl⟩ := List.mem_map.1 hh
    have := hx y hy
    have hpp := Xso h root nonce (fN root q t y)
    have hml := Nat.mod_lt (Qpq root p q g nonce ^ fN root q t y) (show 0 < p by omega)
    unfold ptB ptN
    simp only [Bool.and_eq_true, decide_eq_true_eq, h.grp]
    exact ⟨⟨⟨(Qsk (a := 1) (by omega) (by omega)).2 (by omega), (Ql5 (by omega) (by omega)).2 (by omega)⟩, (Qsk (a := 1) (by omega) (by omega)).2 (by omega)⟩, (Ql5 (by omega) (by omega)).2 hml⟩
theorem Xk3 [NeZero q] (h : Vld s d t p q g) (e1 : Qd9 s = some true) (root : W2) {ln : List Nat} (hl : ∀ n ∈ ln, n < 2 ^ d) (ho : ln.Pairwise (· < ·)) (hlen : ln.length ≤ t) (session : W2) (nonce : BitVec 64) {u : Nat} (hu : u < 2 ^ d) :
    Ql9 s ⟨(u : Int), [], ⟨bn (u + 1), fe (evF (cfF root q t) (fi q (u + 1)))⟩⟩ (hdN root d t p q g ln session nonce) = if u ∈ ln then some (k0, 6) else some (session, 0) := by
  obtain ⟨q1, q2⟩ := h.qb
  obtain ⟨p1, p2⟩ := h.pb
  have ht := h.t8
  have hbig := h.big
  have hb := Qy8 h root nonce
  have hx : ∀ x ∈ xsN d t ln, 1 ≤ x ∧ x < q := fun x hx => Xpx h hl hx
  have hfu : evF (cfF root q t) (fi q (u + 1)) = fi q (fN root q t (u + 1)) := by rw [Xdj root (u + 1) (by omega), Qmo]
  have hfl := Xq0 h root (u + 1)
  rw [hfu, Xgc hfl]
  obtain ⟨c, hc⟩ : ∃ c : Qaf, (⟨(u : Int), [], ⟨bn (u + 1), bn (fN root q t (u + 1))⟩⟩ : Qaf) = c := ⟨_, rfl⟩
  have hcX : c.Share.X = bn (u + 1) := by rw [← hc]
  have hcY : c.Share.Y = bn (fN root q t (u + 1)) := by rw [← hc]
  have h1 := Xjt h root hl ho hlen session nonce
  obtain ⟨H, hH⟩ : ∃ H, hdN root d t p q g ln session nonce = H := ⟨_, rfl⟩
  have hB : H.Base = bn (Qpq root p q g nonce) := by rw [← hH]; rfl
  have hP : H.Points = (xsN d t ln).map (ptN root p q t (Qpq root p q g nonce)) := by rw [← hH]; rfl
  have hX : H.Box = Qw4 (drv k0 (un8 42#8) (bn (Qpq root p q g nonce ^ fN root q t 0 % p))) session := by rw [← hH]; rfl
  have hC : H.Check = drv session (un8 53#8) 0#64 := by rw [← hH]; rfl
  rw [hH] at h1
  rw [hc, hH]
  have hall : Qmx c H p = ((u + 1) :: xsN d t ln).map (ptN root p q t (Qpq root p q g nonce)) := by
    unfold Qmx
    rw [hcX, hcY, hB, hP, Qg3 (by omega), Qg3 (by omega)]; rfl
  have hsh : shB s c = true := by
    unfold shB
    rw [hcX, hcY, h.grp]
    simp only [Bool.and_eq_true, decide_eq_true_eq]
    exact ⟨⟨(Qsk (a := 1) (by omega) (by omega)).2 (by omega), (Ql5 (by omega) (by omega)).2 (by omega)⟩, (Ql5 (by omega) (by omega)).2 hfl⟩
  have hin : u + 1 ∈ xsN d t ln ↔ u ∈ ln := by
    unfold xsN
    rw [List.mem_append]
    constructor
    · rintro (hh | hh)
      · obtain ⟨n, hn, e⟩ := List.mem_map.1 hh
        rw [show u = n from by omega]; exact hn
      · obtain ⟨n, hn, e⟩ := List.mem_map.1 hh
        omega
    · exact fun hh => .inl (List.mem_map.2 ⟨u, hh, rfl⟩)
  have hlq : ∀ x ∈ (u + 1) :: xsN d t ln, x < q := fun x hh => by
    rcases List.mem_cons.1 hh with rfl | hh
    · omega
    · exact (hx x hh).2
  have hdst : Xi2 (Qmx c H p) = decide (u ∉ ln) := by
    unfold Xi2
    rw [hall, Xqx]
    congr 1
    rw [eq_iff_iff]
    constructor
    · intro hn hu2
      rw [List.map_cons, List.nodup_cons] at hn
      exact hn.1 (List.mem_map.2 ⟨u + 1, hin.2 hu2, rfl⟩)
    · intro hn
      exact Xdk q2 hlq (List.nodup_cons.2 ⟨fun e => hn (hin.1 e), Xd4 hl ho⟩)
  rw [Xk6 h e1 c H (by rw [hP, List.length_map, Qvj hlen]; omega), if_pos ⟨h1, hsh⟩, hdst]
  by_cases hul : u ∈ ln
  · rw [if_pos hul, if_neg (by simp [hul])]
  · rw [if_neg hul, if_pos (by simp [hul])]
    have hdd : Xi2 (Qmx c H p) = true := by rw [hdst]; exact decide_eq_true hul
    obtain ⟨f1, f2, f3⟩ := Xij h c H h1 hsh hdd
    have hlen3 : (Qmx c H p).length = t + 1 := by rw [hall, List.length_map, List.length_cons, Qvj hlen]
    rw [Xhd h H (Qmx c H p) (Xa q (Qmx c H p)) (Ya (Qmx c H p)) (by omega) f1 f2 f3, hlen3]
    rw [hlen3] at f3
    have hZ : ∀ k, k < t + 1 → Ya (Qmx c H p) k = g ^ (rN root q nonce * (evF (cfF root q t) (Xa q (Qmx c H p) k)).val) % p := fun k hk => by
      obtain ⟨a2, a3⟩ := f2 k (by omega)
      have a1 := f1 k (by omega)
      have hk2 : k < ((u + 1) :: xsN d t ln).length := by rw [List.length_cons, Qvj hlen]; exact hk
      have hg : (Qmx c H p)[k]'(by omega) = ptN root p q t (Qpq root p q g nonce) (((u + 1) :: xsN d t ln)[k]) := by
        simp only [hall, List.getElem_map]
      rw [hg] at a1 a2
      have hxq := hlq _ (List.getElem_mem hk2)
      generalize ((u + 1) :: xsN d t ln)[k] = x at *
      simp only [ptN] at a1 a2
      have e1 : Xa q (Qmx c H p) k = fi q x := by
        have : fe (fi q x) = fe (Xa q (Qmx c H p) k) := by rw [Xgc hxq]; exact a1
        exact (Xqu q2 this).symm
      have e2 : Qpq root p q g nonce ^ fN root q t x % p = Ya (Qmx c H p) k := (Qqf (Nat.lt_trans (Nat.mod_lt _ (by omega)) (by omega)) (by omega)).1 a2
      rw [← e2, Qy0, e1, Xdj root x hxq]
    obtain ⟨e, z1, z2⟩ := Xq1 (Xa q (Qmx c H p)) (fun k => evF (cfF root q t) (Xa q (Qmx c H p) k)) h.ok (Ya (Qmx c H p)) (t + 1) hZ (t + 1) (Nat.le_refl _)
    have hlag := Xj4 (Xa q (Qmx c H p)) (fun k => evF (cfF root q t) (Xa q (Qmx c H p) k)) h.ok.2.1.2 q2 (cfF root q t) (by rw [Xfe]; exact fun k j hk hj hh => f3 k j hk hj hh) (fun k _ => rfl)
    rw [Xfe] at hlag
    rw [hlag] at z2
    have hz : zF p (Xa q (Qmx c H p)) (Ya (Qmx c H p)) (t + 1) (t + 1) = Qpq root p q g nonce ^ fN root q t 0 % p := by
      rw [z1, Qy0, Xv5 h]
      refine Xff h.ok ?_
      have : fi q (rN root q nonce * e) = fi q (rN root q nonce * (evF (cfF root q t) 0).val) := by rw [Quj, Quj, z2, Qmo]
      have := congrArg Fin.val this
      rwa [Qq9, Qq9] at this
    unfold Ql6
    rw [hz, hX, hC, Qwu, if_neg (by simp)]
end
end Go.Sx.Po

end
section
set_option linter.unusedVariables false
set_option linter.unusedSimpArgs false
set_option maxRecDepth 100000
namespace Go.Sx.Ep
open Go Go.Sx
theorem kin (s : Qa8) (h : un8 s.Kind = 1 ∨ un8 s.Kind = 2 ∨ un8 s.Kind = 3 ∨ un8 s.Kind = 4) : ¬ s.Kind < 1#8 ∧ ¬ (5 : Int) ≤ un8 s.Kind := by
  refine ⟨fun h1 => ?_, by omega⟩
  have := Qtw.2 h1
  have e : un8 (1#8) = 1 := rfl
  omega
theorem Xjv (n : Int) : ∃ b, Qde n = some b := by
  unfold Qde
  by_cases h : 0 ≤ n
  · rw [if_pos h]; exact ⟨_, rfl⟩
  · rw [if_neg h]; exact ⟨_, rfl⟩
def Tre (s : Qa8) (d : Nat) : Prop := (un8 s.Kind = 1 ∨ un8 s.Kind = 2 ∨ un8 s.Kind = 3) ∧ s.Kind ≠ 4#8 ∧ Qnb s = true ∧ s.Depth = (d : Int) ∧ d ≤ 6
def Pol (s : Qa8) (d t p q g : Nat) : Prop := un8 s.Kind = 4 ∧ s.Kind = 4#8 ∧ Po.Vld s d t p q g ∧ Qd9 s = some true
abbrev ses (root : W2) (n : Int) : W2 := drv root (un8 50#8) (wd n)
theorem Xmi {s : Qa8} {l : List Int} (h : (Xky s l).2 = 0) : ∃ d : Nat, Qnb s = true ∧ s.Depth = (d : Int) ∧ d ≤ 6 ∧ Qt3 d l = true := by
  unfold Xky at h
  cases hv : Qnb s with
  | false => rw [hv, if_neg (by simp)] at h; exact absurd h (by simp)
  | true =>
    obtain ⟨d, hd, h6⟩ := Qo5 hv
    rw [hv, if_pos rfl, hd, Int.toNat_natCast] at h
    cases hb : Qt3 d l with
    | false => rw [hb, if_neg (by simp)] at h; exact absurd h (by simp)
    | true => exact ⟨d, rfl, hd, h6, hb⟩
theorem Xk7 (root : W2) (s : Qa8) (n : Int) (l : List Int) (hl : l.length ≤ 1000) : ∃ x, Qjq root s n l = some x ∧ (x.2 = 0 →
    (∃ d, Tre s d ∧ Qt3 d l = true ∧ x.1 = Qxk root (ses root n) s.Kind (Qww s.Kind d (Qid l))) ∨
    (∃ d t p q g, ∃ ln : List Nat, Pol s d t p q g ∧ l = ln.map (fun n : Nat => (n : Int)) ∧ (∀ n ∈ ln, n < 2 ^ d) ∧ ln.Pairwise (· < ·) ∧ ln.length ≤ t ∧ Qet root s l (ses root n) (wd n) = some (Po.hdN root d t p q g ln (ses root n) (wd n), 0) ∧ x.1 = Po.hdN root d t p q g ln (ses root n) (wd n))) := by
  obtain ⟨tk, ht⟩ := Xjv n
  have key : ∀ b, (b = true ∨ (un8 s.Kind = 1 ∨ un8 s.Kind = 2 ∨ un8 s.Kind = 3) ∧ s.Kind ≠ 4#8 ∨ s.Kind = 4#8 ∧ un8 s.Kind = 4 ∧ ¬ (un8 s.Kind = 1 ∨ un8 s.Kind = 2 ∨ un8 s.Kind = 3)) → ∃ x, Qh5 root s n l b = some x ∧ (x.2 = 0 →
    (∃ d, Tre s d ∧ Qt3 d l = true ∧ x.1 = Qxk root (ses root n) s.Kind (Qww s.Kind d (Qid l))) ∨
    (∃ d t p q g, ∃ ln : List Nat, Pol s d t p q g ∧ l = ln.map (fun n : Nat => (n : Int)) ∧ (∀ n ∈ ln, n < 2 ^ d) ∧ ln.Pairwise (· < ·) ∧ ln.length ≤ t ∧ Qet root s l (ses root n) (wd n) = some (Po.hdN root d t p q g ln (ses root n) (wd n), 0) ∧ x.1 = Po.hdN root d t p q g ln (ses root n) (wd n))) := by
    intro b hb
    unfold Qh5 Qg2
    cases b with
    | true => exact ⟨_, rfl, fun h => absurd h (by simp)⟩
    | false =>
      rw [cond_false]
      rcases hb with hb | ⟨k1, k4⟩ | ⟨k4, k1, k0⟩
      · cases hb
      · rw [if_pos k1, (Qsh s).1, bind_some]
        cases hv : Qnb s with
        | false => rw [if_neg (show ¬ (false = true) by simp), if_pos (by decide)]; exact ⟨_, rfl, fun h => absurd h (by simp)⟩
        | true =>
          rw [if_pos (show (true = true) from rfl), if_neg (by decide), ht, bind_some]
          cases tk with
          | false => exact ⟨_, rfl, fun h => absurd h (by simp)⟩
          | true =>
            rw [Bool.not_true, cond_false, bind_some]
            unfold Qha
            rw [Qwq s l (by omega), bind_some]
            by_cases hc : (Xky s l).2 ≠ 0
            · rw [if_pos hc, bind_some]; exact ⟨_, rfl, fun h => absurd h hc⟩
            · obtain ⟨d, _, hd, h6, hb⟩ := Xmi (s := s) (l := l) (by omega)
              have h64 := Po.Qcq h6
              have hR := Qwp h6 hb
              have hcl := Qxv hR s.Kind
              have hsub := fun y (hy : y ∈ Qww s.Kind d (Qid l)) => Qyp hR hy
              rw [if_neg hc, Xi6 hv hd hb]
              simp only
              rw [Quw hv hd h6 _ hsub (by omega), bind_some, bind_some]
              exact ⟨_, rfl, fun _ => .inl ⟨d, ⟨k1, k4, hv, hd, h6⟩, hb, rfl⟩⟩
      · rw [if_neg k0, if_pos k1]
        unfold Qhj
        rcases Po.Xei root s l (by omega) (ses root n) (wd n) with ⟨e2, r, hr⟩ | ⟨d, t, p, q, g, h, e1, e2, hcase⟩
        · have e1 : Qd9 s = some false := by
            rcases Po.Qoz s with ⟨a, _⟩ | ⟨_, b, _⟩
            · exact a
            · rw [b] at e2; cases e2
          rw [e1]
          exact ⟨_, rfl, fun h => absurd h (by simp)⟩
        · rw [e1, bind_some]
          simp only [Bool.not_true, cond_false, bind_some]
          rw [if_neg (by decide), ht, bind_some]
          cases tk with
          | false => exact ⟨_, rfl, fun h => absurd h (by simp)⟩
          | true =>
            simp only [Bool.not_true, cond_false, bind_some]
            rcases hcase with ⟨r, hb, hr⟩ | ⟨r, hb, hlt, hr⟩ | ⟨ln, hln, hb, hlb, ho, hlen, hs'⟩
            · rw [hr, bind_some]; exact ⟨_, rfl, fun h => absurd h (by simp)⟩
            · rw [hr, bind_some]; exact ⟨_, rfl, fun h => absurd h (by simp)⟩
            · rw [hs', bind_some]
              exact ⟨_, rfl, fun _ => .inr ⟨d, t, p, q, g, ln, ⟨k1, k4, h, e1⟩, hln, hlb, ho, hlen, rfl, rfl⟩⟩
  unfold Qjq
  rcases Xsb s.Kind with h | ⟨h1, h2, h3, h4, h5, h6⟩ | ⟨h1, h2, h3⟩
  · by_cases h0 : s.Kind < 1#8
    · rw [if_pos h0]; exact key true (.inl rfl)
    · rw [if_neg h0, decide_eq_true (h.resolve_left h0)]; exact key true (.inl rfl)
  · rw [if_neg h5, decide_eq_false h6]; exact key false (.inr (.inl ⟨h1, h4⟩))
  · obtain ⟨n1, n2⟩ := kin s (by omega)
    rw [if_neg n1, decide_eq_false n2]; exact key false (.inr (.inr ⟨h1, h2, h3⟩))
theorem Xed {s : Qa8} {d : Nat} (h : Tre s d) (root : W2) (u : Int) : ∃ y, Qf0 root s u = some y ∧ (y.2 = 0 → ∃ w : Nat, u = (w : Int) ∧ w < 2 ^ d ∧ y.1 = Qaf.mk (w : Int) (Qzi root s.Kind d w) (Qah.mk 0#64 0#64)) := by
  obtain ⟨k1, k4, hv, hd, h6⟩ := h
  obtain ⟨n1, n2⟩ := kin s (by omega)
  unfold Qf0
  rw [if_neg n1, decide_eq_false n2]
  unfold Qee
  rw [cond_false, if_pos k1, (Qsh s).1, bind_some, if_pos hv, if_neg (by decide), (Qzm root s u).1, bind_some]
  refine ⟨_, rfl, fun h0 => ?_⟩
  by_cases hur : 0 ≤ u ∧ u < ((2 ^ d : Nat) : Int)
  · obtain ⟨w, rfl⟩ : ∃ w : Nat, u = (w : Int) := ⟨u.toNat, by omega⟩
    have hw : w < 2 ^ d := by omega
    exact ⟨w, rfl, hw, by rw [Xow hv hd hw]⟩
  · exfalso
    have : (Xm9 root s u).2 = 2 := by unfold Xm9; rw [if_pos hv, hd, Int.toNat_natCast, if_neg hur]
    simp only at h0
    omega
theorem Xk9 {s : Qa8} {d : Nat} (h : Tre s d) (c : Qaf) (x : Qa9) : Qjf s c x = Option.bind (Qks s c x) fun x3 => some (x3.1, x3.2) := by
  obtain ⟨k1, k4, hv, hd, h6⟩ := h
  obtain ⟨n1, n2⟩ := kin s (by omega)
  unfold Qjf
  rw [if_neg n1, decide_eq_false n2]
  unfold Qim
  rw [cond_false, if_pos k1, (Qsh s).1, bind_some, if_pos hv, if_neg (by decide)]
theorem Xcs {s : Qa8} (h : Qd9 s = some true) : Qhj s = some 0 := by
  unfold Qhj; rw [h]; rfl
theorem Xey {s : Qa8} {d t p q g : Nat} [NeZero q] (h : Pol s d t p q g) (root : W2) (u : Int) : ∃ y, Qf0 root s u = some y ∧ (y.2 = 0 → ∃ w : Nat, u = (w : Int) ∧ w < 2 ^ d ∧ y.1 = ⟨(w : Int), [], ⟨Po.bn (w + 1), Po.fe (Po.evF (Po.cfF root q t) (Po.fi q (w + 1)))⟩⟩) := by
  obtain ⟨k1, k4, hV, e1⟩ := h
  obtain ⟨n1, n2⟩ := kin s (by omega)
  unfold Qf0
  rw [if_neg n1, decide_eq_false n2]
  unfold Qee
  rw [cond_false, if_neg (by omega), if_pos k1, Xcs e1, bind_some, if_neg (by decide)]
  by_cases hur : 0 ≤ u ∧ u < ((2 ^ d : Nat) : Int)
  · obtain ⟨w, rfl⟩ : ∃ w : Nat, u = (w : Int) := ⟨u.toNat, by omega⟩
    have hw : w < 2 ^ d := by omega
    rw [Po.Qxt hV e1 root hw, bind_some]
    exact ⟨_, rfl, fun _ => ⟨w, rfl, hw, rfl⟩⟩
  · obtain ⟨c, hcc⟩ := Po.Qxr hV e1 root hur
    rw [hcc, bind_some]
    exact ⟨_, rfl, fun h => absurd h (by simp)⟩
theorem Xjh {s : Qa8} {d t p q g : Nat} (h : Pol s d t p q g) (c : Qaf) (x : Qa9) : Qjf s c x = Option.bind (Ql9 s c x) fun x3 => some (x3.1, x3.2) := by
  obtain ⟨k1, k4, hV, e1⟩ := h
  obtain ⟨n1, n2⟩ := kin s (by omega)
  unfold Qjf
  rw [if_neg n1, decide_eq_false n2]
  unfold Qim
  rw [cond_false, if_neg (by omega), if_pos k1, Xcs e1, bind_some, if_neg (by decide)]
theorem Xtn (root : W2) (s : Qa8) (u : Int) : ∃ y, Qf0 root s u = some y := by
  have key : ∀ b, (b = true ∨ (un8 s.Kind = 1 ∨ un8 s.Kind = 2 ∨ un8 s.Kind = 3) ∧ s.Kind ≠ 4#8 ∨ s.Kind = 4#8 ∧ un8 s.Kind = 4 ∧ ¬ (un8 s.Kind = 1 ∨ un8 s.Kind = 2 ∨ un8 s.Kind = 3)) → ∃ y, Qee root s u b = some y := by
    intro b hb
    unfold Qee
    cases b with
    | true => exact ⟨_, rfl⟩
    | false =>
      rw [cond_false]
      rcases hb with hb | ⟨k1, k4⟩ | ⟨k4, k1, k0⟩
      · cases hb
      · rw [if_pos k1, (Qsh s).1, bind_some]
        by_cases he : (if Qnb s = true then (0 : Int) else 30) ≠ 0
        · rw [if_pos he]; exact ⟨_, rfl⟩
        · rw [if_neg he, (Qzm root s u).1]; exact ⟨_, rfl⟩
      · rw [if_neg k0, if_pos k1]
        unfold Qhj
        rcases Po.Qoz s with ⟨e1, _⟩ | ⟨e1, _, d, t, p, q, g, h⟩
        · rw [e1]; exact ⟨_, rfl⟩
        · haveI : NeZero q := ⟨by have := h.qb; omega⟩
          rw [e1]
          simp only [bind_some, Bool.not_true, cond_false]
          rw [if_neg (by decide)]
          by_cases hur : 0 ≤ u ∧ u < ((2 ^ d : Nat) : Int)
          · obtain ⟨w, rfl⟩ : ∃ w : Nat, u = (w : Int) := ⟨u.toNat, by omega⟩
            rw [Po.Qxt h e1 root (by omega), bind_some]; exact ⟨_, rfl⟩
          · obtain ⟨c, hcc⟩ := Po.Qxr h e1 root hur
            rw [hcc, bind_some]; exact ⟨_, rfl⟩
  unfold Qf0
  rcases Xsb s.Kind with h | ⟨h1, h2, h3, h4, h5, h6⟩ | ⟨h1, h2, h3⟩
  · by_cases h0 : s.Kind < 1#8
    · rw [if_pos h0]; exact key true (.inl rfl)
    · rw [if_neg h0, decide_eq_true (h.resolve_left h0)]; exact key true (.inl rfl)
  · rw [if_neg h5, decide_eq_false h6]; exact key false (.inr (.inl ⟨h1, h4⟩))
  · obtain ⟨n1, n2⟩ := kin s (by omega)
    rw [if_neg n1, decide_eq_false n2]; exact key false (.inr (.inr ⟨h1, h2, h3⟩))
end Go.Sx.Ep

end
section
set_option linter.unusedVariables false
set_option linter.unusedSimpArgs false
set_option maxRecDepth 100000
namespace Go.Sx
open Go Go.Sx.Ep
theorem goC {τ R : Type} (F : (τ → Option R) → τ → Option R) (I : Nat → τ → Prop) (n : Nat) (r : Option R) (hn : n < 9223372036854775808) {s : τ} (h0 : I 0 s) (hs : ∀ j s, j < n → I j s → ∃ s', I (j + 1) s' ∧ ∀ rec, F rec s = rec s') (he : ∀ s, I n s → ∀ rec, F rec s = r) : Qc2 F Qcw s = r :=
  Qyz F I n r hs he n 0 Qcw s (by omega) (Qdv hn) h0
theorem Xum (p : Qa9) (h1 : p.Items.length < 4611686018427387904) (h2 : p.Points.length < 4611686018427387904) : Qfw p p = some true := by
  unfold Qfw
  simp only [ne_eq, not_true_eq_false, if_false, decide_false]
  unfold Qcz
  rw [cond_false]
  refine goC _ (fun j x => x = (j : Int)) p.Items.length _ (by omega) rfl ?_ ?_
  · rintro j _ hj rfl
    refine ⟨_, rfl, fun rec => ?_⟩
    simp only [Qdy]
    rw [if_pos (by omega), Qc6 hj, bind_some, bind_some, if_neg (by simp), Qes (by omega)]
  · rintro _ rfl rec
    simp only [Qdy]
    rw [if_neg (by omega)]
    refine goC _ (fun j x => x = (j : Int)) p.Points.length _ (by omega) rfl ?_ ?_
    · rintro j _ hj rfl
      refine ⟨_, rfl, fun rec => ?_⟩
      simp only [Qe0]
      rw [if_pos (by omega), Qc6 hj, bind_some, bind_some, if_neg (by simp), Qes (by omega)]
    · rintro _ rfl rec
      simp only [Qe0]
      rw [if_neg (by omega)]
theorem Xd9 {root : W2} {s : Qa8} {n : Int} {l : List Int} {x : Qa9 × Int} {y : Qaf × Int} : Qdp root s n l true x y true = some true := rfl
theorem Qr4 (root : W2) (s : Qa8) (n : Int) (l : List Int) (u : Int) (hs : s.ok) (hn : I64 n) (hl : ∀ a ∈ l, I64 a) (hll : l.length * 8 ≤ 140737488351232) (hu : I64 u) : Qii root s n l u = some true := by
  unfold Qii
  rw [Xqp, bind_some]
  by_cases kl : (100 : Int) < (l.length : Int)
  · rw [if_pos kl]; rfl
  rw [if_neg kl, Bool.not_true]
  unfold Qev
  rw [cond_false]
  obtain ⟨x, x1, x2⟩ := Xk7 root s n l (by omega)
  obtain ⟨y, y1⟩ := Xtn root s u
  rw [x1, y1, bind_some, bind_some]
  by_cases hx : x.2 ≠ 0
  · rw [if_pos hx]; exact Xd9
  rw [if_neg hx]
  by_cases hy : y.2 ≠ 0
  · rw [decide_eq_true hy]; exact Xd9
  rw [decide_eq_false hy]
  have hy0 : y.2 = 0 := by omega
  unfold Qdp
  rw [cond_false]
  rcases x2 (by omega) with ⟨d, ht, hb, hx⟩ | ⟨d, t, p, q, g, ln, ht, hln, hlb, ho, hlen, hse, hx⟩
  · obtain ⟨y', y3, y4⟩ := Xed ht root u
    rw [y1] at y3; cases y3
    obtain ⟨w, rfl, hw, hyv⟩ := y4 hy0
    rw [Xk9 ht, hx, hyv]
    obtain ⟨k1, k4, hv, hd, h6⟩ := ht
    have h64 := Po.Qcq h6
    have hR := Qwp h6 hb
    have hcl := Qxv hR s.Kind
    have hsub := fun y (hy : y ∈ Qww s.Kind d (Qid l)) => Qyp hR hy
    have hil : (Qxk root (ses root n) s.Kind (Qww s.Kind d (Qid l))).Items.length ≤ 64 := by simp [Qxk]; omega
    have hpl : (Qxk root (ses root n) s.Kind (Qww s.Kind d (Qid l))).Points.length = 0 := rfl
    have hs := Xum (Qxk root (ses root n) s.Kind (Qww s.Kind d (Qid l))) (by omega) (by omega)
    have hsl := Quw hv hd h6 (Qww s.Kind d (Qid l)) hsub (by omega) root (drv root (un8 50#8) (wd n))
    have hop := Xjr hv hd h6 hw (Qww s.Kind d (Qid l)) hsub (by omega) root (ses root n) (w : Int) (Qah.mk 0#64 0#64)
    rw [hop, bind_some, bind_some, if_neg k4, Qwq s l (by omega), bind_some, Xi6 hv hd hb]
    simp only
    rw [hsl, bind_some, bind_some]
    simp only [cond_true]
    rw [if_pos trivial, if_pos trivial, hs, bind_some, cond_true]
    simp
  · haveI : NeZero q := ⟨by have := ht.2.2.1.qb; omega⟩
    obtain ⟨y', y3, y4⟩ := Xey ht root u
    rw [y1] at y3; cases y3
    obtain ⟨w, rfl, hw, hyv⟩ := y4 hy0
    rw [Xjh ht, hx, hyv]
    obtain ⟨k1, k4, hV, e1⟩ := ht
    have hop := Po.Xk3 hV e1 root hlb ho hlen (ses root n) (wd n) hw
    have hxl : (Po.hdN root d t p q g ln (ses root n) (wd n)).Items.length = 0 := rfl
    have hxp : (Po.hdN root d t p q g ln (ses root n) (wd n)).Points.length ≤ 100 := by
      have ht8 := hV.t8
      show ((Po.xsN d t ln).map _).length ≤ 100
      rw [List.length_map, Po.Qvj hlen]; omega
    have hs := Xum (Po.hdN root d t p q g ln (ses root n) (wd n)) (by omega) (by omega)
    obtain ⟨z, hz⟩ : ∃ z, (if w ∈ ln then some (k0, (6 : Int)) else some (ses root n, 0)) = some z := by by_cases hm : w ∈ ln <;> simp [hm]
    rw [hop, hz, bind_some, bind_some, if_pos k4]
    have hse' : Qet root s l (drv root (un8 50#8) (wd n)) (wd n) = some (Po.hdN root d t p q g ln (ses root n) (wd n), 0) := hse
    rw [hse', bind_some, bind_some]
    simp only [cond_true]
    rw [if_pos trivial, hs, bind_some, cond_true]
    simp
end Go.Sx

end
