/- Several texts in one: Iq Ir Iv Oa Og Oh De Oi Ko5 LawOe5. -/
import Derived.Test.YtjdffpglgkefmaaGreatZd
import Derived.Test.YtjdffpglgkefmaaGreatZf
import Derived.Test.YtjdffpglgkefmaaGreatZc
import Derived.KernelRfl
set_option linter.unusedVariables false
set_option linter.unusedSimpArgs false
section
set_option linter.unusedVariables false
set_option linter.unusedSimpArgs false
set_option linter.unusedSectionVars false
set_option maxRecDepth 100000
namespace Go.Sx.Po
open Go
section
variable {q : Nat} [NeZero q]
def Xpd (c r : Fin q) (u : List (Fin q)) : List (Fin q) := List.zipWith (fun a b => a - b * r) (c :: u) (u ++ [0])
theorem Xjp (c r : Fin q) (u : List (Fin q)) : (Xpd c r u).length = u.length + 1 := by simp [Xpd]
variable (X Y : Nat → Fin q)
noncomputable def Xez (j : Nat) : Nat → List (Fin q)
  | 0 => [Y j]
  | k + 1 => if k = j then Xez j k else (Xpd 0 (X k) (Xez j k)).map (· * iv (X j - X k))
noncomputable def Xiv (n : Nat) : Nat → List (Fin q)
  | 0 => List.replicate n 0
  | j + 1 => List.zipWith (· + ·) (Xiv n j) (Xez X Y j n)
theorem Qv3 (j : Nat) : ∀ k, (Xez X Y j k).length = if j < k then k else k + 1
  | 0 => rfl
  | k + 1 => by
    have ih := Qv3 j k
    simp only [Xez]
    by_cases e : k = j
    · rw [if_pos e, ih, if_neg (by omega), if_pos (by omega)]
    · rw [if_neg e, List.length_map, Xjp, ih]
      by_cases e2 : j < k
      · rw [if_pos e2, if_pos (by omega)]
      · rw [if_neg e2, if_neg (by omega)]
theorem Qv4 (n : Nat) : ∀ j, j ≤ n → (Xiv X Y n j).length = n
  | 0, _ => by simp [Xiv]
  | j + 1, h => by
    have := Qv3 X Y j n
    rw [if_pos (by omega)] at this
    simp [Xiv, Qv4 n j (by omega), this]
theorem Qyn (hP : Prm q) (q2 : q ≤ 1048575) (j i : Nat) (hij : i ≠ j) : ∀ k, i < k → evF (Xez X Y j k) (X i) = 0
  | 0, h => by omega
  | k + 1, h => by
    simp only [Xez]
    by_cases e : k = j
    · rw [if_pos e]; exact Qyn hP q2 j i hij k (by omega)
    · rw [if_neg e, Qsk, Xpd, Xby]
      by_cases e2 : i = k
      · subst e2; grind
      · rw [Qyn hP q2 j i hij k (by omega)]; grind
theorem Xh4 (hP : Prm q) (q2 : q ≤ 1048575) (j n : Nat) (hne : ∀ k, k < n → k ≠ j → X j - X k ≠ 0) : ∀ k, k ≤ n → evF (Xez X Y j k) (X j) = Y j
  | 0, _ => by simp only [Xez, Qdi, Qp7]; grind
  | k + 1, h => by
    have ih := Xh4 hP q2 j n hne k (by omega)
    simp only [Xez]
    by_cases e : k = j
    · rw [if_pos e]; exact ih
    · have h1 := (Qno hP q2 (hne k (by omega) e)).1
      rw [if_neg e, Qsk, Xpd, Xby, ih]; grind
theorem Xma (hP : Prm q) (q2 : q ≤ 1048575) (n i : Nat) (hi : i < n) (hne : ∀ k j, k < n → j < n → k ≠ j → X j - X k ≠ 0) : ∀ j, j ≤ n → evF (Xiv X Y n j) (X i) = if i < j then Y i else 0
  | 0, _ => by simp only [Xiv]; rw [Qvk, if_neg (by omega)]
  | j + 1, h => by
    have hb := Qv3 X Y j n
    rw [if_pos (by omega)] at hb
    simp only [Xiv]
    rw [Xbl _ _ _ (by rw [Qv4 X Y n j (by omega), hb]), Xma hP q2 n i hi hne j (by omega)]
    by_cases e : i = j
    · subst e
      rw [Xh4 X Y hP q2 i n (fun k hk he => hne k i hk hi he) n (Nat.le_refl _), if_neg (by omega), if_pos (by omega)]; grind
    · rw [Qyn X Y hP q2 j i e n hi]
      by_cases e2 : i < j
      · rw [if_pos e2, if_pos (by omega)]; grind
      · rw [if_neg e2, if_neg (by omega)]; grind
end
end Go.Sx.Po

end
section
set_option linter.unusedVariables false
set_option linter.unusedSimpArgs false
set_option linter.unusedSectionVars false
set_option maxRecDepth 100000
namespace Go.Sx.Po
open Go
section
variable {q : Nat} [NeZero q] (X Y : Nat → Fin q)
variable {s : Qa7} {d t p g : Nat}
def seg (a b : Nat) : List (Fin q) := (List.range' a (b - a)).map X
theorem Xh6 {n a b : Nat} (hb : b ≤ n) (hne : ∀ k j, k < n → j < n → k ≠ j → X j - X k ≠ 0) : (seg X a b).Nodup := by
  unfold seg
  rw [List.Nodup, List.pairwise_map]
  refine List.Pairwise.imp_of_mem ?_ (List.nodup_range' (step := 1) (s := a) (n := b - a))
  intro i j hi hj hij he
  have hi' := List.mem_range'_1.1 hi
  have hj' := List.mem_range'_1.1 hj
  exact hne i j (by omega) (by omega) hij (by rw [he]; grind)
end
end Go.Sx.Po

end
section
set_option linter.unusedVariables false
set_option linter.unusedSimpArgs false
set_option linter.unusedSectionVars false
set_option maxRecDepth 100000
namespace Go.Sx.Po
open Go
section
variable {s : Qa7} {d t p q g : Nat}
end
section
variable {s : Qa7} {d t p q g : Nat}
end
end Go.Sx.Po

end
section
set_option linter.unusedVariables false
set_option linter.unusedSimpArgs false
set_option linter.unusedSectionVars false
set_option maxRecDepth 100000
namespace Go.Sx.Po
open Go
theorem Xq7 {q : Nat} (q2 : q ≤ 1048575) {a b : Fin q} (h : fe a = fe b) : a = b := by
  have ha := a.isLt
  have hb := b.isLt
  unfold fe at h
  exact Fin.ext ((Qq5 (by omega) (by omega)).1 h)
theorem Xhk {q : Nat} [NeZero q] (x : Fin q) : ∀ (l : List (Fin q)), fi q (evN (l.map Fin.val) x.val) = evF l x
  | [] => rfl
  | a :: l => by
    have ih := Xhk x l
    rw [Qdi, List.map_cons]
    show fi q (a.val + x.val * evN (l.map Fin.val) x.val) = _
    rw [Qzm, Qu8, Qms, Qms, ih]
section
variable {s : Qa7} {d t p q g : Nat}
def cfF (root : W2) (q t : Nat) [NeZero q] : List (Fin q) := (cfs root q t).map (fi q)
theorem Xgr (root : W2) [NeZero q] : (cfF root q t).length = t + 1 := by rw [cfF, List.length_map, Xch]
theorem Xd4 [NeZero q] (root : W2) (x : Nat) (hx : x < q) : fN root q t x = (evF (cfF root q t) (fi q x)).val := by
  rw [← Xhk]
  unfold fN cfF
  rw [List.map_map, Xgm hx, Qq7]
  congr 2
  have : ∀ c ∈ cfs root q t, (Fin.val ∘ fi q) c = c := fun c hc => Xgm (Xaw (by omega) c hc)
  exact ((List.map_congr_left this).trans (List.map_id _)).symm
theorem Qxg [NeZero q] (h : Vld s d t p q g) (e1 : Qd8 s = some true) (root : W2) {u : Nat} (hu : u < 2 ^ d) : Qh0 root s (u : Int) = some (⟨(u : Int), [], ⟨bn (u + 1), fe (evF (cfF root q t) (fi q (u + 1)))⟩⟩, 0) := by
  have h64 := Qck h.d6
  obtain ⟨q1, q2⟩ := h.qb
  have hb := h.big
  have ht := h.t8
  have hcl : (cfs root q t).length = t + 1 := Xch root
  unfold Qh0 Qg4
  rw [e1, bind_some]
  simp only [Bool.not_true, cond_false]
  rw [if_neg (by omega), h.depth, Qp2, bind_some, Xlf h.d6, decide_eq_false (by omega), cond_false, Qva h, bind_some, h.grp, Quj, show (1#64) = bn 1 from rfl, Qu5]
  simp only
  rw [Xoh q1 q2 (by omega) _ (Xaw (by omega)) (by omega), bind_some]
  have := Xd4 (t := t) root (u + 1) (show u + 1 < q by omega)
  unfold fN at this
  rw [this]
theorem Qx9 (h : Vld s d t p q g) (e1 : Qd8 s = some true) (root : W2) {u : Int} (hu : ¬ (0 ≤ u ∧ u < ((2 ^ d : Nat) : Int))) : ∃ c, Qh0 root s u = some (c, 2) := by
  have h64 := Qck h.d6
  unfold Qh0 Qg4
  rw [e1, bind_some]
  simp only [Bool.not_true, cond_false]
  by_cases hn : u < 0
  · rw [if_pos hn]; exact ⟨_, rfl⟩
  · rw [if_neg hn, h.depth, Qp2, bind_some, Xlf h.d6, decide_eq_true (by omega)]; exact ⟨_, rfl⟩
end
end Go.Sx.Po

end
section
set_option linter.unusedVariables false
set_option linter.unusedSimpArgs false
set_option linter.unusedSectionVars false
set_option maxRecDepth 100000
namespace Go.Sx.Po
open Go
section
variable {p q g : Nat}
theorem Xv5 (h : Qwh p q g) : 2 ≤ p := by have := h.2.2.2.1; have := h.2.2.2.2.1; omega
theorem Xly (h : Qwh p q g) (k : Nat) : g ^ (q * k) % p = 1 := by
  rw [Nat.pow_mul, Nat.pow_mod, h.2.2.2.2.2, Nat.one_pow, Nat.mod_eq_of_lt (by have := Xv5 h; omega)]
theorem Xlt (h : Qwh p q g) (n : Nat) : g ^ n % p = g ^ (n % q) % p := by
  conv => lhs; rw [← Nat.div_add_mod n q, Nat.pow_add, Nat.mul_mod, Xly h, Nat.one_mul, Nat.mod_mod]
theorem Xir (h : Qwh p q g) {a b : Nat} (e : a % q = b % q) : g ^ a % p = g ^ b % p := by rw [Xlt h a, Xlt h b, e]
theorem Xr5 (h : Qwh p q g) {n : Nat} (e : g ^ n % p = 1) : n % q = 0 := by
  have hq := h.2.1.2.1
  have q2 := h.2.1.1
  have hg := h.2.2.2.1
  have hgp := h.2.2.2.2.1
  haveI : NeZero q := ⟨by omega⟩
  refine Decidable.byContradiction fun hn => ?_
  have hne : fi q n ≠ 0 := fun h0 => hn (by have := congrArg Fin.val h0; rw [Qq7] at this; exact this)
  have h1 : fi q n * iv (fi q n) = 1 := (Qno h.2.1.2 q2 hne).1
  have h2 : fi q (n * (iv (fi q n)).val) = fi q 1 := by rw [Qu8, Qms, h1, Xv9]
  have h3 : n * (iv (fi q n)).val % q = 1 % q := by have := congrArg Fin.val h2; rw [Qq7, Qq7] at this; exact this
  have h4 := Xir h h3
  rw [Nat.pow_one, Nat.mod_eq_of_lt hgp, Nat.pow_mul, Nat.pow_mod, e, Nat.one_pow, Nat.mod_eq_of_lt (by omega)] at h4
  omega
theorem Xm4 (h : Qwh p q g) (n : Nat) : g ^ n % p ≠ 0 := fun e => by
  have hq := h.2.1.2.1
  have e1 : g ^ (n + n * (q - 1)) % p = 1 := by
    rw [show n + n * (q - 1) = q * n from by rw [Nat.mul_sub_one, Nat.mul_comm q n]; have := Nat.le_mul_of_pos_right n (show 0 < q by omega); omega]; exact Xly h n
  rw [Nat.pow_add, Nat.mul_mod, e, Nat.zero_mul, Nat.zero_mod] at e1
  exact absurd e1 (by decide)
end
section
variable {s : Qa7} {d t p q g : Nat}
theorem Qyk (root : W2) (nonce : BitVec 64) (n : Nat) : Qpv root p q g nonce ^ n % p = g ^ (rN root q nonce * n) % p := by
  unfold Qpv; rw [← Nat.pow_mod, ← Nat.pow_mul]
theorem Xkq (h : Vld s d t p q g) (root : W2) (nonce : BitVec 64) : 2 ≤ Qpv root p q g nonce := by
  obtain ⟨r1, r2⟩ := Xfq h root nonce
  have h0 := Xm4 h.ok (rN root q nonce)
  have h1 : g ^ rN root q nonce % p ≠ 1 := fun e => by
    have := Xr5 h.ok e
    rw [Nat.mod_eq_of_lt r2] at this; omega
  unfold Qpv; omega
theorem Xem (root : W2) (s : Qa7) (l : List Int) (hl : l.length < 4611686018427387904) (session : W2) (nonce : BitVec 64) :
    (Qkl s = some false ∧ ∃ r, Qfy root s l session nonce = some (r, 30)) ∨
    ∃ d t p q g, Vld s d t p q g ∧ Qd8 s = some true ∧ Qkl s = some true ∧ ((∃ r, Qt6 d l = false ∧ Qfy root s l session nonce = some (r, 2)) ∨ (∃ r, Qt6 d l = true ∧ t < l.length ∧ Qfy root s l session nonce = some (r, 4)) ∨
      ∃ ln : List Nat, l = ln.map (fun n : Nat => (n : Int)) ∧ Qt6 d l = true ∧ (∀ n ∈ ln, n < 2 ^ d) ∧ ln.Pairwise (· < ·) ∧ ln.length ≤ t ∧ Qfy root s l session nonce = some (hdN root d t p q g ln session nonce, 0)) := by
  rcases Qpa s with ⟨e1, e2⟩ | ⟨e1, e2, d, t, p, q, g, h⟩
  · refine .inl ⟨e2, ⟨[], 0#64, [], k0, k0⟩, ?_⟩
    unfold Qfy; rw [e1, bind_some]; rfl
  · refine .inr ⟨d, t, p, q, g, h, e1, e2, ?_⟩
    cases hb : Qt6 d l with
    | false =>
      refine .inl ⟨⟨[], 0#64, [], k0, k0⟩, rfl, ?_⟩
      unfold Qfy; rw [e1, bind_some]; simp only [Bool.not_true, cond_false]; rw [Qtc h root l session nonce hl, hb]; rfl
    | true =>
      by_cases hlen : s.Degree < (l.length : Int)
      · refine .inr (.inl ⟨⟨[], 0#64, [], k0, k0⟩, rfl, by rw [h.deg] at hlen; omega, ?_⟩)
        unfold Qfy; rw [e1, bind_some]; simp only [Bool.not_true, cond_false]; rw [Qtc h root l session nonce hl, hb, cond_true, if_pos hlen]
      · obtain ⟨ln, rfl, h1, h2⟩ := Xnv hb
        rw [h.deg] at hlen
        have h3 : ln.length ≤ t := by simp at hlen; omega
        exact .inr (.inr ⟨ln, rfl, rfl, h1, h2, h3, Qyp h e1 root h1 h2 h3 session nonce⟩)
theorem Xve [NeZero q] (h : Vld s d t p q g) (root : W2) : fN root q t 0 = (evF (cfF root q t) 0).val := by
  have := Xd4 (t := t) root 0 (show 0 < q by have := h.qb; omega)
  rw [this, Xuw]
end
end Go.Sx.Po

end
section
set_option linter.unusedVariables false
set_option linter.unusedSimpArgs false
set_option linter.unusedSectionVars false
set_option maxRecDepth 100000
namespace Go.Sx.Po
open Go
section
variable {q : Nat} [NeZero q] (X Y : Nat → Fin q)
theorem Xt4 (hP : Prm q) (q2 : q ≤ 1048575) {a : Fin q} (h : a ≠ 0) : iv (-a) = -(iv a) := by
  have h1 := (Qno hP q2 h).1
  have hn : -a ≠ 0 := fun e => h (by grind)
  have h2 := (Qno hP q2 hn).1
  have h3 : iv a * (-a * iv (-a)) = iv a := by rw [h2]; grind
  grind
theorem Xqt (hP : Prm q) (q2 : q ≤ 1048575) (j n : Nat) (hne : ∀ k, k < n → k ≠ j → X k - X j ≠ 0) : ∀ k, k ≤ n → evF (Xez X Y j k) 0 = Y j * Xey X j k
  | 0, _ => by simp only [Xez, Qdi, Qp7, Xey]; grind
  | k + 1, h => by
    have ih := Xqt hP q2 j n hne k (by omega)
    simp only [Xez, Xey]
    by_cases e : k = j
    · rw [if_pos e, if_pos e]; exact ih
    · have hk := hne k (by omega) e
      have h1 : iv (X j - X k) = -(iv (X k - X j)) := by rw [← Xt4 hP q2 hk]; congr 1; grind
      rw [if_neg e, if_neg e, Qsk, Xpd, Xby, ih, h1]; grind
noncomputable def Xlp (n : Nat) : Nat → Fin q
  | 0 => 0
  | j + 1 => Xlp n j + Y j * Xey X j n
theorem Xqn (hP : Prm q) (q2 : q ≤ 1048575) (n : Nat) (hne : ∀ k j, k < n → j < n → k ≠ j → X k - X j ≠ 0) : ∀ j, j ≤ n → evF (Xiv X Y n j) 0 = Xlp X Y n j
  | 0, _ => by simp only [Xiv, Xlp]; rw [Qvk]
  | j + 1, h => by
    have hb := Qv3 X Y j n
    rw [if_pos (by omega)] at hb
    simp only [Xiv, Xlp]
    rw [Xbl _ _ _ (by rw [Qv4 X Y n j (by omega), hb]), Xqn hP q2 n hne j (by omega), Xqt X Y hP q2 j n (fun k hk he => hne k j hk (by omega) he) n (Nat.le_refl _)]
theorem Xk1 (hP : Prm q) (q2 : q ≤ 1048575) (f : List (Fin q)) (hne : ∀ k j, k < f.length → j < f.length → k ≠ j → X k - X j ≠ 0) (hY : ∀ k, k < f.length → Y k = evF f (X k)) : Xlp X Y f.length f.length = evF f 0 := by
  have hne' : ∀ k j, k < f.length → j < f.length → k ≠ j → X j - X k ≠ 0 := fun k j hk hj h => hne j k hj hk (Ne.symm h)
  rw [← Xqn X Y hP q2 f.length hne f.length (Nat.le_refl _)]
  congr 1
  have hs : (seg X 0 f.length).length = f.length := by simp [seg]
  refine Xkf hP q2 (Xh6 X (a := 0) (b := f.length) (Nat.le_refl _) hne') (by rw [Qv4 X Y _ _ (Nat.le_refl _), hs]) (by rw [hs]) fun x hx => ?_
  obtain ⟨j, hj, rfl⟩ := List.mem_map.1 hx
  have hj' := List.mem_range'_1.1 hj
  rw [Xma X Y hP q2 _ j (by omega) hne' _ (Nat.le_refl _), if_pos (by omega), hY j (by omega)]
theorem Xr7 {p g r : Nat} (h : Qwh p q g) (Z : Nat → Nat) (n : Nat) (hZ : ∀ k, k < n → Z k = g ^ (r * (Y k).val) % p) : ∀ j, j ≤ n → ∃ e, zF p X Z n j = g ^ (r * e) % p ∧ fi q e = Xlp X Y n j
  | 0, _ => ⟨0, by simp only [zF, Nat.mul_zero, Nat.pow_zero]; rw [Nat.mod_eq_of_lt (by have := Xv5 h; omega)], by simp only [Xlp, Xuw]⟩
  | j + 1, hj => by
    obtain ⟨e, h1, h2⟩ := Xr7 h Z n hZ j (by omega)
    refine ⟨e + (Y j).val * (Xey X j n).val, ?_, ?_⟩
    · simp only [zF]
      rw [h1, hZ j (by omega), ← Nat.pow_mod, ← Nat.pow_mul, ← Nat.mul_mod, ← Nat.pow_add, Nat.mul_add, Nat.mul_assoc]
    · simp only [Xlp]
      rw [Qzm, Qu8, Qms, Qms, h2]
end
end Go.Sx.Po

end
section
set_option linter.unusedVariables false
set_option linter.unusedSimpArgs false
set_option maxRecDepth 100000
namespace Go.Sx.Po
open Go
theorem Qqf (x : BitVec 64) (n m : Nat) (h : n + m = 64) (hn : 0 < n) (hm : 0 < m) : Xce (Xce x n) m = x := by
  unfold Xce
  apply BitVec.eq_of_getLsbD_eq
  intro i hi
  simp only [BitVec.getLsbD_or, BitVec.getLsbD_shiftLeft, BitVec.getLsbD_ushiftRight]
  by_cases h1 : i < m
  · have h2 : ¬ (64 - m + i < n) := by omega
    have h3 : 64 - m + i < 64 := by omega
    have h4 : 64 - m + i - n = i := by omega
    have h5 : 64 ≤ 64 - n + (64 - m + i) := by omega
    rw [h4, BitVec.getLsbD_of_ge x _ h5]
    simp [h1, hi, h2, h3]
  · have h2 : i - m < n := by omega
    have h3 : 64 - n + (i - m) = i := by omega
    have h4 : 64 ≤ 64 - m + i := by omega
    have h6 : ¬ 64 - m + i < 64 := by omega
    have h7 : 64 ≤ 64 - n + (64 - m + i) := by omega
    rw [h3, BitVec.getLsbD_of_ge x _ h7]
    simp [h1, hi, h2, h6]
theorem Qy2 (p : W2) (k : BitVec 64) : Xdl (rnd p k) k = p := by
  obtain ⟨a, b⟩ := p
  unfold Xdl rnd
  simp only
  have h1 : ∀ x y : BitVec 64, x ^^^ (y ^^^ x) = y := fun x y => by rw [BitVec.xor_comm y x, ← BitVec.xor_assoc, BitVec.xor_self, BitVec.zero_xor]
  have h2 : ∀ x y : BitVec 64, (x ^^^ y) ^^^ y = x := fun x y => by rw [BitVec.xor_assoc, BitVec.xor_self, BitVec.xor_zero]
  rw [h1, h2, Qqf b 3 61 (by omega) (by omega) (by omega), BitVec.add_sub_cancel, Qqf a 56 8 (by omega) (by omega) (by omega)]
theorem Xso (K : Nat → BitVec 64) : ∀ (n : Nat) (b : W2), (List.range n).foldl (fun p i => Xdl p (K (n - 1 - i))) ((List.range n).foldl (fun p i => rnd p (K i)) b) = b
  | 0, b => rfl
  | n + 1, b => by
    rw [show (List.range (n + 1)).foldl (fun p i => rnd p (K i)) b = rnd ((List.range n).foldl (fun p i => rnd p (K i)) b) (K n) from by rw [List.range_succ, List.foldl_append]; rfl]
    rw [List.range_succ_eq_map, List.foldl_cons, show n + 1 - 1 - 0 = n from rfl, Qy2, List.foldl_map]
    have := Xso K n b
    rw [show (fun (p : W2) (i : Nat) => Xdl p (K (n + 1 - 1 - i.succ))) = fun p i => Xdl p (K (n - 1 - i)) from by funext p i; congr 2; omega]
    exact this
theorem Qwn (k b : W2) : Xet k (Qw4 k b) = b := Xso (fun i => (ks k i).2) 32 b
end Go.Sx.Po

end
section
set_option linter.unusedVariables false
set_option linter.unusedSimpArgs false
set_option linter.unusedSectionVars false
set_option maxRecDepth 100000
namespace Go.Sx.Po
open Go
section
variable {s : Qa7} {d t p q g : Nat}
theorem Xpk (h : Vld s d t p q g) (root : W2) (nonce : BitVec 64) (n : Nat) : 1 ≤ Qpv root p q g nonce ^ n % p := by
  rw [Qyk]; have := Xm4 h.ok (rN root q nonce * n); omega
theorem Xrk (root : W2) (b : Nat) (l : List Nat) : (l.map (ptN root p q t b)).map (·.X) = l.map bn := by rw [List.map_map]; rfl
theorem Xcr {l : List Nat} (hq : q ≤ 1048575) (hl : ∀ x ∈ l, x < q) (h : l.Nodup) : (l.map bn).Nodup := by
  rw [List.Nodup, List.pairwise_map]
  refine List.Pairwise.imp_of_mem (fun ha hb hne e => hne ((Qq5 (by have := hl _ ha; omega) (by have := hl _ hb; omega)).1 e)) h
theorem Xdc {ln : List Nat} (hl : ∀ n ∈ ln, n < 2 ^ d) (ho : ln.Pairwise (· < ·)) : (xsN d t ln).Nodup := by
  unfold xsN
  rw [List.nodup_append]
  refine ⟨?_, ?_, ?_⟩
  · rw [List.Nodup, List.pairwise_map]; exact ho.imp fun {a b} hab e => by omega
  · rw [List.Nodup, List.pairwise_map]; exact List.nodup_range.imp fun {a b} hab e => hab (by omega)
  · intro a ha b hb e
    obtain ⟨n, hn, rfl⟩ := List.mem_map.1 ha
    obtain ⟨m, _, rfl⟩ := List.mem_map.1 hb
    have := hl n hn; omega
theorem Xkw (h : Vld s d t p q g) (root : W2) {ln : List Nat} (hl : ∀ n ∈ ln, n < 2 ^ d) (ho : ln.Pairwise (· < ·)) (hlen : ln.length ≤ t) (session : W2) (nonce : BitVec 64) : hdB s (hdN root d t p q g ln session nonce) = true := by
  obtain ⟨q1, q2⟩ := h.qb
  obtain ⟨p1, p2⟩ := h.pb
  have hb := Qyq h root nonce
  have hb2 := Xkq h root nonce
  have hx : ∀ x ∈ xsN d t ln, 1 ≤ x ∧ x < q := fun x hx => Xsx h hl hx
  unfold hdB hdN
  simp only [Bool.and_eq_true, decide_eq_true_eq, h.grp, h.deg]
  refine ⟨⟨⟨⟨⟨trivial, ?_⟩, ?_⟩, ?_⟩, ?_⟩, ?_⟩
  · exact (Qt1 (a := 1) (by omega) (by omega)).2 (by omega)
  · exact (Ql3 (by omega) (by omega)).2 hb
  · rw [List.length_map, Qz0 hlen]
  · unfold Xh8
    rw [Xrk]; exact decide_eq_true (Xcr q2 (fun x hh => (hx x hh).2) (Xdc hl ho))
  · rw [List.all_eq_true]
    intro x hh
    obtain ⟨y, hy, rfl⟩ := List.mem_map.1 hh
    have := hx y hy
    have hpp := Xpk h root nonce (fN root q t y)
    have hml := Nat.mod_lt (Qpv root p q g nonce ^ fN root q t y) (show 0 < p by omega)
    unfold ptB ptN
    simp only [Bool.and_eq_true, decide_eq_true_eq, h.grp]
    exact ⟨⟨⟨(Qt1 (a := 1) (by omega) (by omega)).2 (by omega), (Ql3 (by omega) (by omega)).2 (by omega)⟩, (Qt1 (a := 1) (by omega) (by omega)).2 (by omega)⟩, (Ql3 (by omega) (by omega)).2 hml⟩
theorem Xj5 [NeZero q] (h : Vld s d t p q g) (e1 : Qd8 s = some true) (root : W2) {ln : List Nat} (hl : ∀ n ∈ ln, n < 2 ^ d) (ho : ln.Pairwise (· < ·)) (hlen : ln.length ≤ t) (session : W2) (nonce : BitVec 64) {u : Nat} (hu : u < 2 ^ d) :
    Qmq s ⟨(u : Int), [], ⟨bn (u + 1), fe (evF (cfF root q t) (fi q (u + 1)))⟩⟩ (hdN root d t p q g ln session nonce) = if u ∈ ln then some (k0, 6) else some (session, 0) := by
  obtain ⟨q1, q2⟩ := h.qb
  obtain ⟨p1, p2⟩ := h.pb
  have ht := h.t8
  have hbig := h.big
  have hb := Qyq h root nonce
  have hx : ∀ x ∈ xsN d t ln, 1 ≤ x ∧ x < q := fun x hx => Xsx h hl hx
  have hfu : evF (cfF root q t) (fi q (u + 1)) = fi q (fN root q t (u + 1)) := by rw [Xd4 root (u + 1) (by omega), Qms]
  have hfl := Xq5 h root (u + 1)
  rw [hfu, Xi0 hfl]
  obtain ⟨c, hc⟩ : ∃ c : Qae, (⟨(u : Int), [], ⟨bn (u + 1), bn (fN root q t (u + 1))⟩⟩ : Qae) = c := ⟨_, rfl⟩
  have hcX : c.Share.X = bn (u + 1) := by rw [← hc]
  have hcY : c.Share.Y = bn (fN root q t (u + 1)) := by rw [← hc]
  have h1 := Xkw h root hl ho hlen session nonce
  obtain ⟨H, hH⟩ : ∃ H, hdN root d t p q g ln session nonce = H := ⟨_, rfl⟩
  have hB : H.Base = bn (Qpv root p q g nonce) := by rw [← hH]; rfl
  have hP : H.Points = (xsN d t ln).map (ptN root p q t (Qpv root p q g nonce)) := by rw [← hH]; rfl
  have hX : H.Box = Qw4 (drv k0 (un8 42#8) (bn (Qpv root p q g nonce ^ fN root q t 0 % p))) session := by rw [← hH]; rfl
  have hC : H.Check = drv session (un8 53#8) 0#64 := by rw [← hH]; rfl
  rw [hH] at h1
  rw [hc, hH]
  have hall : Qn1 c H p = ((u + 1) :: xsN d t ln).map (ptN root p q t (Qpv root p q g nonce)) := by
    unfold Qn1
    rw [hcX, hcY, hB, hP, Qfx (by omega), Qfx (by omega)]; rfl
  have hsh : shB s c = true := by
    unfold shB
    rw [hcX, hcY, h.grp]
    simp only [Bool.and_eq_true, decide_eq_true_eq]
    exact ⟨⟨(Qt1 (a := 1) (by omega) (by omega)).2 (by omega), (Ql3 (by omega) (by omega)).2 (by omega)⟩, (Ql3 (by omega) (by omega)).2 hfl⟩
  have hin : u + 1 ∈ xsN d t ln ↔ u ∈ ln := by
    unfold xsN
    rw [List.mem_append]
    constructor
    · rintro (hh | hh)
      · obtain ⟨n, hn, e⟩ := List.mem_map.1 hh
        rw [show u = n from by omega]; exact hn
      · obtain ⟨n, hn, e⟩ := List.mem_map.1 hh
        omega
    · exact fun hh => .inl (List.mem_map.2 ⟨u, hh, rfl⟩)
  have hlq : ∀ x ∈ (u + 1) :: xsN d t ln, x < q := fun x hh => by
    rcases List.mem_cons.1 hh with rfl | hh
    · omega
    · exact (hx x hh).2
  have hdst : Xh8 (Qn1 c H p) = decide (u ∉ ln) := by
    unfold Xh8
    rw [hall, Xrk]
    congr 1
    rw [eq_iff_iff]
    constructor
    · intro hn hu2
      rw [List.map_cons, List.nodup_cons] at hn
      exact hn.1 (List.mem_map.2 ⟨u + 1, hin.2 hu2, rfl⟩)
    · intro hn
      exact Xcr q2 hlq (List.nodup_cons.2 ⟨fun e => hn (hin.1 e), Xdc hl ho⟩)
  rw [Xjc h e1 c H (by rw [hP, List.length_map, Qz0 hlen]; omega), if_pos ⟨h1, hsh⟩, hdst]
  by_cases hul : u ∈ ln
  · rw [if_pos hul, if_neg (by simp [hul])]
  · rw [if_neg hul, if_pos (by simp [hul])]
    have hdd : Xh8 (Qn1 c H p) = true := by rw [hdst]; exact decide_eq_true hul
    obtain ⟨f1, f2, f3⟩ := Xg7 h c H h1 hsh hdd
    have hlen3 : (Qn1 c H p).length = t + 1 := by rw [hall, List.length_map, List.length_cons, Qz0 hlen]
    rw [Xie h H (Qn1 c H p) (Xa q (Qn1 c H p)) (Ya (Qn1 c H p)) (by omega) f1 f2 f3, hlen3]
    rw [hlen3] at f3
    have hZ : ∀ k, k < t + 1 → Ya (Qn1 c H p) k = g ^ (rN root q nonce * (evF (cfF root q t) (Xa q (Qn1 c H p) k)).val) % p := fun k hk => by
      obtain ⟨a2, a3⟩ := f2 k (by omega)
      have a1 := f1 k (by omega)
      have hk2 : k < ((u + 1) :: xsN d t ln).length := by rw [List.length_cons, Qz0 hlen]; exact hk
      have hg : (Qn1 c H p)[k]'(by omega) = ptN root p q t (Qpv root p q g nonce) (((u + 1) :: xsN d t ln)[k]) := by
        simp only [hall, List.getElem_map]
      rw [hg] at a1 a2
      have hxq := hlq _ (List.getElem_mem hk2)
      generalize ((u + 1) :: xsN d t ln)[k] = x at *
      simp only [ptN] at a1 a2
      have e1 : Xa q (Qn1 c H p) k = fi q x := by
        have : fe (fi q x) = fe (Xa q (Qn1 c H p) k) := by rw [Xi0 hxq]; exact a1
        exact (Xq7 q2 this).symm
      have e2 : Qpv root p q g nonce ^ fN root q t x % p = Ya (Qn1 c H p) k := (Qq5 (Nat.lt_trans (Nat.mod_lt _ (by omega)) (by omega)) (by omega)).1 a2
      rw [← e2, Qyk, e1, Xd4 root x hxq]
    obtain ⟨e, z1, z2⟩ := Xr7 (Xa q (Qn1 c H p)) (fun k => evF (cfF root q t) (Xa q (Qn1 c H p) k)) h.ok (Ya (Qn1 c H p)) (t + 1) hZ (t + 1) (Nat.le_refl _)
    have hlag := Xk1 (Xa q (Qn1 c H p)) (fun k => evF (cfF root q t) (Xa q (Qn1 c H p) k)) h.ok.2.1.2 q2 (cfF root q t) (by rw [Xgr]; exact fun k j hk hj hh => f3 k j hk hj hh) (fun k _ => rfl)
    rw [Xgr] at hlag
    rw [hlag] at z2
    have hz : zF p (Xa q (Qn1 c H p)) (Ya (Qn1 c H p)) (t + 1) (t + 1) = Qpv root p q g nonce ^ fN root q t 0 % p := by
      rw [z1, Qyk, Xve h]
      refine Xir h.ok ?_
      have : fi q (rN root q nonce * e) = fi q (rN root q nonce * (evF (cfF root q t) 0).val) := by rw [Qu8, Qu8, z2, Qms]
      have := congrArg Fin.val this
      rwa [Qq7, Qq7] at this
    unfold Ql6
    rw [hz, hX, hC, Qwn, if_neg (by simp)]
end
end Go.Sx.Po

end
section
set_option linter.unusedVariables false
set_option linter.unusedSimpArgs false
set_option maxRecDepth 100000
namespace Go.Sx.Ep
open Go Go.Sx
theorem kin (s : Qa7) (h : un8 s.Kind = 1 ∨ un8 s.Kind = 2 ∨ un8 s.Kind = 3 ∨ un8 s.Kind = 4) : ¬ s.Kind < 1#8 ∧ ¬ (5 : Int) ≤ un8 s.Kind := by
  refine ⟨fun h1 => ?_, by omega⟩
  have := Qt9.2 h1
  have e : un8 (1#8) = 1 := rfl
  omega
theorem Xkr (n : Int) : ∃ b, Qdg n = some b := by
  unfold Qdg
  by_cases h : 0 ≤ n
  · rw [if_pos h]; exact ⟨_, rfl⟩
  · rw [if_neg h]; exact ⟨_, rfl⟩
def Tre (s : Qa7) (d : Nat) : Prop := (un8 s.Kind = 1 ∨ un8 s.Kind = 2 ∨ un8 s.Kind = 3) ∧ s.Kind ≠ 4#8 ∧ Qnf s = true ∧ s.Depth = (d : Int) ∧ d ≤ 6
def Pol (s : Qa7) (d t p q g : Nat) : Prop := un8 s.Kind = 4 ∧ s.Kind = 4#8 ∧ Po.Vld s d t p q g ∧ Qd8 s = some true
abbrev ses (root : W2) (n : Int) : W2 := drv root (un8 50#8) (wd n)
theorem Xor {s : Qa7} {l : List Int} (h : (Xm8 s l).2 = 0) : ∃ d : Nat, Qnf s = true ∧ s.Depth = (d : Int) ∧ d ≤ 6 ∧ Qt6 d l = true := by
  unfold Xm8 at h
  cases hv : Qnf s with
  | false => rw [hv, if_neg (by simp)] at h; exact absurd h (by simp)
  | true =>
    obtain ⟨d, hd, h6⟩ := Qoe hv
    rw [hv, if_pos rfl, hd, Int.toNat_natCast] at h
    cases hb : Qt6 d l with
    | false => rw [hb, if_neg (by simp)] at h; exact absurd h (by simp)
    | true => exact ⟨d, rfl, hd, h6, hb⟩
theorem Xl0 (root : W2) (s : Qa7) (n : Int) (l : List Int) (hl : l.length ≤ 1000) : ∃ x, Qjh root s n l = some x ∧ (x.2 = 0 →
    (∃ d, Tre s d ∧ Qt6 d l = true ∧ x.1 = Xb7 root (ses root n) s.Kind (Qz9 s.Kind d (Qih l))) ∨
    (∃ d t p q g, ∃ ln : List Nat, Pol s d t p q g ∧ l = ln.map (fun n : Nat => (n : Int)) ∧ (∀ n ∈ ln, n < 2 ^ d) ∧ ln.Pairwise (· < ·) ∧ ln.length ≤ t ∧ Qfy root s l (ses root n) (wd n) = some (Po.hdN root d t p q g ln (ses root n) (wd n), 0) ∧ x.1 = Po.hdN root d t p q g ln (ses root n) (wd n))) := by
  obtain ⟨tk, ht⟩ := Xkr n
  have key : ∀ b, (b = true ∨ (un8 s.Kind = 1 ∨ un8 s.Kind = 2 ∨ un8 s.Kind = 3) ∧ s.Kind ≠ 4#8 ∨ s.Kind = 4#8 ∧ un8 s.Kind = 4 ∧ ¬ (un8 s.Kind = 1 ∨ un8 s.Kind = 2 ∨ un8 s.Kind = 3)) → ∃ x, Qgx root s n l b = some x ∧ (x.2 = 0 →
    (∃ d, Tre s d ∧ Qt6 d l = true ∧ x.1 = Xb7 root (ses root n) s.Kind (Qz9 s.Kind d (Qih l))) ∨
    (∃ d t p q g, ∃ ln : List Nat, Pol s d t p q g ∧ l = ln.map (fun n : Nat => (n : Int)) ∧ (∀ n ∈ ln, n < 2 ^ d) ∧ ln.Pairwise (· < ·) ∧ ln.length ≤ t ∧ Qfy root s l (ses root n) (wd n) = some (Po.hdN root d t p q g ln (ses root n) (wd n), 0) ∧ x.1 = Po.hdN root d t p q g ln (ses root n) (wd n))) := by
    intro b hb
    unfold Qgx Qe5
    cases b with
    | true => exact ⟨_, rfl, fun h => absurd h (by simp)⟩
    | false =>
      rw [cond_false]
      rcases hb with hb | ⟨k1, k4⟩ | ⟨k4, k1, k0⟩
      · cases hb
      · rw [if_pos k1, (Qsp s).1, bind_some]
        cases hv : Qnf s with
        | false => rw [if_neg (show ¬ (false = true) by simp), if_pos (by decide)]; exact ⟨_, rfl, fun h => absurd h (by simp)⟩
        | true =>
          rw [if_pos (show (true = true) from rfl), if_neg (by decide), ht, bind_some]
          cases tk with
          | false => exact ⟨_, rfl, fun h => absurd h (by simp)⟩
          | true =>
            rw [Bool.not_true, cond_false, bind_some]
            unfold Qgz
            rw [Xa9 s l (by omega), bind_some]
            by_cases hc : (Xm8 s l).2 ≠ 0
            · rw [if_pos hc, bind_some]; exact ⟨_, rfl, fun h => absurd h hc⟩
            · obtain ⟨d, _, hd, h6, hb⟩ := Xor (s := s) (l := l) (by omega)
              have h64 := Po.Qck h6
              have hR := Qwp h6 hb
              have hcl := Qxf hR s.Kind
              have hsub := fun y (hy : y ∈ Qz9 s.Kind d (Qih l)) => Qzb hR hy
              rw [if_neg hc, Xn9 hv hd hb]
              simp only
              rw [Qyp hv hd h6 _ hsub (by omega), bind_some, bind_some]
              exact ⟨_, rfl, fun _ => .inl ⟨d, ⟨k1, k4, hv, hd, h6⟩, hb, rfl⟩⟩
      · rw [if_neg k0, if_pos k1]
        unfold Qhi
        rcases Po.Xem root s l (by omega) (ses root n) (wd n) with ⟨e2, r, hr⟩ | ⟨d, t, p, q, g, h, e1, e2, hcase⟩
        · have e1 : Qd8 s = some false := by
            rcases Po.Qpa s with ⟨a, _⟩ | ⟨_, b, _⟩
            · exact a
            · rw [b] at e2; cases e2
          rw [e1]
          exact ⟨_, rfl, fun h => absurd h (by simp)⟩
        · rw [e1, bind_some]
          simp only [Bool.not_true, cond_false, bind_some]
          rw [if_neg (by decide), ht, bind_some]
          cases tk with
          | false => exact ⟨_, rfl, fun h => absurd h (by simp)⟩
          | true =>
            simp only [Bool.not_true, cond_false, bind_some]
            rcases hcase with ⟨r, hb, hr⟩ | ⟨r, hb, hlt, hr⟩ | ⟨ln, hln, hb, hlb, ho, hlen, hs'⟩
            · rw [hr, bind_some]; exact ⟨_, rfl, fun h => absurd h (by simp)⟩
            · rw [hr, bind_some]; exact ⟨_, rfl, fun h => absurd h (by simp)⟩
            · rw [hs', bind_some]
              exact ⟨_, rfl, fun _ => .inr ⟨d, t, p, q, g, ln, ⟨k1, k4, h, e1⟩, hln, hlb, ho, hlen, rfl, rfl⟩⟩
  unfold Qjh
  rcases Xpl s.Kind with h | ⟨h1, h2, h3, h4, h5, h6⟩ | ⟨h1, h2, h3⟩
  · by_cases h0 : s.Kind < 1#8
    · rw [if_pos h0]; exact key true (.inl rfl)
    · rw [if_neg h0, decide_eq_true (h.resolve_left h0)]; exact key true (.inl rfl)
  · rw [if_neg h5, decide_eq_false h6]; exact key false (.inr (.inl ⟨h1, h4⟩))
  · obtain ⟨n1, n2⟩ := kin s (by omega)
    rw [if_neg n1, decide_eq_false n2]; exact key false (.inr (.inr ⟨h1, h2, h3⟩))
theorem Xej {s : Qa7} {d : Nat} (h : Tre s d) (root : W2) (u : Int) : ∃ y, Qf0 root s u = some y ∧ (y.2 = 0 → ∃ w : Nat, u = (w : Int) ∧ w < 2 ^ d ∧ y.1 = Qae.mk (w : Int) (Xax root s.Kind d w) (Qah.mk 0#64 0#64)) := by
  obtain ⟨k1, k4, hv, hd, h6⟩ := h
  obtain ⟨n1, n2⟩ := kin s (by omega)
  unfold Qf0
  rw [if_neg n1, decide_eq_false n2]
  unfold Qeb
  rw [cond_false, if_pos k1, (Qsp s).1, bind_some, if_pos hv, if_neg (by decide), (Xam root s u).1, bind_some]
  refine ⟨_, rfl, fun h0 => ?_⟩
  by_cases hur : 0 ≤ u ∧ u < ((2 ^ d : Nat) : Int)
  · obtain ⟨w, rfl⟩ : ∃ w : Nat, u = (w : Int) := ⟨u.toNat, by omega⟩
    have hw : w < 2 ^ d := by omega
    exact ⟨w, rfl, hw, by rw [Xns hv hd hw]⟩
  · exfalso
    have : (Xme root s u).2 = 2 := by unfold Xme; rw [if_pos hv, hd, Int.toNat_natCast, if_neg hur]
    simp only at h0
    omega
theorem Xja {s : Qa7} {d : Nat} (h : Tre s d) (c : Qae) (x : Qaa) : Qil s c x = Option.bind (Qmc s c x) fun x3 => some (x3.1, x3.2) := by
  obtain ⟨k1, k4, hv, hd, h6⟩ := h
  obtain ⟨n1, n2⟩ := kin s (by omega)
  unfold Qil
  rw [if_neg n1, decide_eq_false n2]
  unfold Qin
  rw [cond_false, if_pos k1, (Qsp s).1, bind_some, if_pos hv, if_neg (by decide)]
theorem Xct {s : Qa7} (h : Qd8 s = some true) : Qhi s = some 0 := by
  unfold Qhi; rw [h]; rfl
theorem Xfa {s : Qa7} {d t p q g : Nat} [NeZero q] (h : Pol s d t p q g) (root : W2) (u : Int) : ∃ y, Qf0 root s u = some y ∧ (y.2 = 0 → ∃ w : Nat, u = (w : Int) ∧ w < 2 ^ d ∧ y.1 = ⟨(w : Int), [], ⟨Po.bn (w + 1), Po.fe (Po.evF (Po.cfF root q t) (Po.fi q (w + 1)))⟩⟩) := by
  obtain ⟨k1, k4, hV, e1⟩ := h
  obtain ⟨n1, n2⟩ := kin s (by omega)
  unfold Qf0
  rw [if_neg n1, decide_eq_false n2]
  unfold Qeb
  rw [cond_false, if_neg (by omega), if_pos k1, Xct e1, bind_some, if_neg (by decide)]
  by_cases hur : 0 ≤ u ∧ u < ((2 ^ d : Nat) : Int)
  · obtain ⟨w, rfl⟩ : ∃ w : Nat, u = (w : Int) := ⟨u.toNat, by omega⟩
    have hw : w < 2 ^ d := by omega
    rw [Po.Qxg hV e1 root hw, bind_some]
    exact ⟨_, rfl, fun _ => ⟨w, rfl, hw, rfl⟩⟩
  · obtain ⟨c, hcc⟩ := Po.Qx9 hV e1 root hur
    rw [hcc, bind_some]
    exact ⟨_, rfl, fun h => absurd h (by simp)⟩
theorem Xjb {s : Qa7} {d t p q g : Nat} (h : Pol s d t p q g) (c : Qae) (x : Qaa) : Qil s c x = Option.bind (Qmq s c x) fun x3 => some (x3.1, x3.2) := by
  obtain ⟨k1, k4, hV, e1⟩ := h
  obtain ⟨n1, n2⟩ := kin s (by omega)
  unfold Qil
  rw [if_neg n1, decide_eq_false n2]
  unfold Qin
  rw [cond_false, if_neg (by omega), if_pos k1, Xct e1, bind_some, if_neg (by decide)]
theorem Xup (root : W2) (s : Qa7) (u : Int) : ∃ y, Qf0 root s u = some y := by
  have key : ∀ b, (b = true ∨ (un8 s.Kind = 1 ∨ un8 s.Kind = 2 ∨ un8 s.Kind = 3) ∧ s.Kind ≠ 4#8 ∨ s.Kind = 4#8 ∧ un8 s.Kind = 4 ∧ ¬ (un8 s.Kind = 1 ∨ un8 s.Kind = 2 ∨ un8 s.Kind = 3)) → ∃ y, Qeb root s u b = some y := by
    intro b hb
    unfold Qeb
    cases b with
    | true => exact ⟨_, rfl⟩
    | false =>
      rw [cond_false]
      rcases hb with hb | ⟨k1, k4⟩ | ⟨k4, k1, k0⟩
      · cases hb
      · rw [if_pos k1, (Qsp s).1, bind_some]
        by_cases he : (if Qnf s = true then (0 : Int) else 30) ≠ 0
        · rw [if_pos he]; exact ⟨_, rfl⟩
        · rw [if_neg he, (Xam root s u).1]; exact ⟨_, rfl⟩
      · rw [if_neg k0, if_pos k1]
        unfold Qhi
        rcases Po.Qpa s with ⟨e1, _⟩ | ⟨e1, _, d, t, p, q, g, h⟩
        · rw [e1]; exact ⟨_, rfl⟩
        · haveI : NeZero q := ⟨by have := h.qb; omega⟩
          rw [e1]
          simp only [bind_some, Bool.not_true, cond_false]
          rw [if_neg (by decide)]
          by_cases hur : 0 ≤ u ∧ u < ((2 ^ d : Nat) : Int)
          · obtain ⟨w, rfl⟩ : ∃ w : Nat, u = (w : Int) := ⟨u.toNat, by omega⟩
            rw [Po.Qxg h e1 root (by omega), bind_some]; exact ⟨_, rfl⟩
          · obtain ⟨c, hcc⟩ := Po.Qx9 h e1 root hur
            rw [hcc, bind_some]; exact ⟨_, rfl⟩
  unfold Qf0
  rcases Xpl s.Kind with h | ⟨h1, h2, h3, h4, h5, h6⟩ | ⟨h1, h2, h3⟩
  · by_cases h0 : s.Kind < 1#8
    · rw [if_pos h0]; exact key true (.inl rfl)
    · rw [if_neg h0, decide_eq_true (h.resolve_left h0)]; exact key true (.inl rfl)
  · rw [if_neg h5, decide_eq_false h6]; exact key false (.inr (.inl ⟨h1, h4⟩))
  · obtain ⟨n1, n2⟩ := kin s (by omega)
    rw [if_neg n1, decide_eq_false n2]; exact key false (.inr (.inr ⟨h1, h2, h3⟩))
end Go.Sx.Ep

end
section
set_option linter.unusedVariables false
set_option linter.unusedSimpArgs false
set_option maxRecDepth 100000
namespace Go.Sx
open Go Go.Sx.Ep
theorem Xtq (l : List Int) (u : Int) (hl : l.length < 4611686018427387904) : Qsm l u = some (decide (u ∈ l)) := by
  unfold Qsm
  have p1' := Qtu l (Qja l u) (fun j (_ : Unit) => (j : Int)) (fun a nx s' => bif decide (a = u) then some true else nx s') (fun _ => some false)
    (fun rec j hj _ => by
      simp only [Qja]
      rw [if_pos (by omega), Qcb hj, bind_some, Qet (by omega)]
      by_cases he : l[j] = u
      · rw [if_pos he, decide_eq_true he]; rfl
      · rw [if_neg he, decide_eq_false he]; rfl)
    (fun rec _ => by simp only [Qja]; rw [if_neg (by omega)]) (f := Qcw) (Qe1 (by omega)) ()
  rw [show ((0 : Nat) : Int) = 0 from rfl] at p1'
  rw [p1', Qv5 (fun a : Int => decide (a = u)) (fun _ _ => some true) _ _ _ _ (fun a _ nx s => rfl)]
  cases hf : l.find? (fun a : Int => decide (a = u)) with
  | some a =>
    have h1 := List.find?_some hf
    have h2 := List.mem_of_find?_eq_some hf
    have h3 : a = u := by simpa using h1
    subst h3
    rw [decide_eq_true h2]
  | none =>
    have : u ∉ l := fun h => by have := (List.find?_eq_none.1 hf) _ h; simp at this
    rw [decide_eq_false this]
theorem Xhq {root : W2} {s : Qa7} {n : Int} {l : List Int} {u : Int} {x : Qaa × Int} {y : Qae × Int} : Qda root s n l u true x y true = some true := rfl
theorem Xh1 {root : W2} {s : Qa7} {n : Int} {l : List Int} {u : Int} {x : Qaa × Int} {y : Qae × Int} (hl : l.length < 4611686018427387904) (h : Qil s y.1 x.1 = if u ∈ l then some (k0, 6) else some (ses root n, 0)) : Qda root s n l u true x y false = some true := by
  unfold Qda
  rw [cond_false, h, Xtq l u hl]
  by_cases hm : u ∈ l
  · rw [if_pos hm, bind_some, bind_some, decide_eq_true hm]; rfl
  · rw [if_neg hm, bind_some, bind_some, decide_eq_false hm]
    simp only [cond_false, cond_true, if_true]
    unfold Qe5
    rw [bind_some]; simp
theorem Qsa (root : W2) (s : Qa7) (n : Int) (l : List Int) (u : Int) (hs : s.ok) (hn : I64 n) (hl : ∀ a ∈ l, I64 a) (hll : l.length * 8 ≤ 140737488351232) (hu : I64 u) : Qj5 root s n l u = some true := by
  unfold Qj5
  rw [Xpn, bind_some]
  by_cases kl : (100 : Int) < (l.length : Int)
  · rw [if_pos kl]; rfl
  rw [if_neg kl, Bool.not_true]
  unfold Qfj
  rw [cond_false]
  obtain ⟨x, x1, x2⟩ := Xl0 root s n l (by omega)
  obtain ⟨y, y1⟩ := Xup root s u
  rw [x1, y1, bind_some, bind_some]
  by_cases hx : x.2 ≠ 0
  · rw [if_pos hx]; exact Xhq
  rw [if_neg hx]
  by_cases hy : y.2 ≠ 0
  · rw [decide_eq_true hy]; exact Xhq
  rw [decide_eq_false hy]
  have hy0 : y.2 = 0 := by omega
  refine Xh1 (by omega) ?_
  rcases x2 (by omega) with ⟨d, ht, hb, hx⟩ | ⟨d, t, p, q, g, ln, ht, rfl, hlb, ho, hlen, _, hx⟩
  · obtain ⟨y', y3, y4⟩ := Xej ht root u
    rw [y1] at y3; cases y3
    obtain ⟨w, rfl, hw, hyv⟩ := y4 hy0
    rw [Xja ht, hx, hyv]
    obtain ⟨k1, k4, hv, hd, h6⟩ := ht
    have h64 := Po.Qck h6
    have hR := Qwp h6 hb
    have hcl := Qxf hR s.Kind
    have hsub := fun y (hy : y ∈ Qz9 s.Kind d (Qih l)) => Qzb hR hy
    rw [Xj0 hv hd h6 hw _ hsub (by omega), bind_some, Xj6 hR s.Kind hw]
    by_cases hm : (w : Int) ∈ l
    · rw [if_pos hm, decide_eq_false (by simpa using (Xfe hb).2 hm)]; rfl
    · rw [if_neg hm, decide_eq_true (show w ∉ Qih l from fun h => hm ((Xfe hb).1 h))]; rfl
  · haveI : NeZero q := ⟨by have := ht.2.2.1.qb; omega⟩
    obtain ⟨y', y3, y4⟩ := Xfa ht root u
    rw [y1] at y3; cases y3
    obtain ⟨w, rfl, hw, hyv⟩ := y4 hy0
    rw [Xjb ht, hx, hyv]
    obtain ⟨k1, k4, hV, e1⟩ := ht
    rw [Po.Xj5 hV e1 root hlb ho hlen _ _ hw]
    have hmm : (w : Int) ∈ ln.map (fun n : Nat => (n : Int)) ↔ w ∈ ln := by
      rw [List.mem_map]
      constructor
      · rintro ⟨a, ha, hab⟩
        have : a = w := by omega
        exact this ▸ ha
      · exact fun hh => ⟨w, hh, rfl⟩
    by_cases hm : w ∈ ln
    · rw [if_pos hm, if_pos (hmm.2 hm)]; rfl
    · rw [if_neg hm, if_neg (fun hh => hm (hmm.1 hh))]; rfl
end Go.Sx

end
