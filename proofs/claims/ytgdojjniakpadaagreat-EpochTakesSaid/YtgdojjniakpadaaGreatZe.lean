/- Several texts in one: Ref2 BitL Srt SrtSub Pl Air Tr Ts Fx Mb Lb Tk Fy SecN Nm Vb Vp Kya. -/
import Derived.Test.YtgdojjniakpadaaGreatZd
import Derived.Test.YtgdojjniakpadaaGreatZc
import Derived.Test.YtgdojjniakpadaaGreatRows
import Derived.KernelRfl
import Derived.Test.YtgdojjniakpadaaGreatZb
import Derived.Shelf.SlSortCmp.NoneTotal
import Derived.Shelf.SlGeneric
import Derived.Test.YtgdojjniakpadaaGreatProg
set_option linter.unusedVariables false
set_option linter.unusedSimpArgs false
section
set_option linter.unusedVariables false
set_option linter.unusedSimpArgs false
namespace Go.Proofs.YtgdojjniakpadaaGreat
open Go Go.RowKit Go.Sx
theorem Qhc : ZV Tryz.prog 5 (.int .u8 0) := fun _ => by kernel_rfl
theorem Gq : Pg Tryz.prog 32 1 5 1 [.int .u8 0] := Lv Tryz.underlying32 (Xs).siz Qhc rfl rfl (by kernel_rfl)
theorem Wf : Dk Tryz.prog 32 5 1 1 := Fb Tryz.underlying32 rfl (by kernel_rfl)
theorem Qan : En Tryz.prog 344 := fun _ _ => by kernel_rfl
theorem Fh : En Tryz.prog 290 := fun _ _ => by kernel_rfl
theorem Qam : En Tryz.prog 289 := fun _ _ => by kernel_rfl
theorem Ei : En Tryz.prog 285 := fun _ _ => by kernel_rfl
theorem Qe6 : En Tryz.prog 283 := fun _ _ => by kernel_rfl
theorem Qd7 : ZV Tryz.prog 24 (.int .u64 0) := fun _ => by kernel_rfl
theorem Lu : Pg Tryz.prog 308 1 24 1 [.int .u64 0] := Lv Tryz.underlying308 (Xm).siz Qd7 rfl rfl (by kernel_rfl)
theorem Qe7 : En Tryz.prog 286 := fun _ _ => by kernel_rfl
theorem Ow : Dk Tryz.prog 308 24 1 8 := Fb Tryz.underlying308 rfl (by kernel_rfl)
theorem Qlu : En Tryz.prog 284 := fun _ _ => by kernel_rfl
theorem Qlv : En Tryz.prog 287 := fun _ _ => by kernel_rfl
theorem Qe1 : En Tryz.prog 185 := fun _ _ => by kernel_rfl
theorem Eh : En Tryz.prog 180 := fun _ _ => by kernel_rfl
abbrev bc (n : Int) : List Value := [.int .u8 n]
abbrev uc (x : BitVec 64) : List Value := [wv x]
def Dp (n : BitVec 64) (s : Nat) : List Int := (List.range s).map fun i => un (n >>> (8 * (s - 1 - i))) % 256
theorem Bl (n : BitVec 64) (s : Nat) : (Dp n s).length = s := by simp [Dp]
theorem Qwj (n : BitVec 64) (i : Nat) : Dp n (i + 1) = un (n >>> (8 * i)) % 256 :: Dp n i := by
  unfold Dp
  rw [List.range_succ_eq_map, List.map_cons, List.map_map]
  congr 1
  apply List.map_congr_left
  intro j hj
  simp only [Function.comp, List.mem_range] at hj ⊢
  congr 4; omega
theorem Xgf (n : BitVec 64) (i : Nat) : (n >>> (8 * i)) >>> 8 = n >>> (8 * (i + 1)) := by
  rw [← BitVec.shiftRight_add]; congr 1
set_option maxHeartbeats 1000000 in
theorem Qhn (n : BitVec 64) (s : Nat) (hs : s ≤ 1000) (w : World) :
    Calls Tryz.prog 290 [wv n, .int .i64 (s : Int)].toArray w fun e w' => ∃ v, e = .returned v ∧ (∃ z g, Qn w' z g 5 1 v ((Dp n s).map bc) ∧ (z = 0 ∨ w.heap.size ≤ g) ∧ Gr w w') := by
 refine Xe 21 Tryz.func290 rfl rfl rfl<|qs 1 rfl<|qv rfl (Zn rfl)<|qd 1 rfl<|qv rfl (Zn rfl)<|Qa<|Qe<|qs 1 rfl<|qv rfl (Zn rfl)<|Qa<|Xi<|Zq (α := Nat × Value × Nat × Nat) [0, 5, 6, 7, 8, 9, 10, 11, 12, 13, 14, 15, 16, 17, 18, 19] (fun ⟨i, v, z, g⟩ => [(6, .int .i64 (i : Int)), (0, wv (n >>> (8 * i))), (5, v)]) (fun ⟨i, v, z, g⟩ wr => (i ≤ s) ∧ (Qn wr z g 5 1 v ((Dp n i).map bc) ∧ (z = 0 ∨ w.heap.size ≤ g)) ∧ Kp [] w wr) (fun ⟨i, v, z, g⟩ => s - i) (⟨0, .slice none 0 0, 0, 0⟩) ?_ ?_ ?_
 · repeat' first | exact trivial | refine ⟨by first | rfl | (rw [Nat.mul_zero, BitVec.ushiftRight_zero]; rfl), ?_⟩
 · exact ⟨Nat.zero_le _, ⟨(Ji _ 0 _ _), .inl rfl⟩, Kp.refl _ _⟩
 rintro ⟨i, v, z, g⟩ w1 ⟨hi, ⟨Ow1_5, hOw1_5⟩, Kw1⟩
 have z1 := Kw1.size
 have lt2 := Ow1_5.lt
 refine Qe<|qs 3 rfl<|qv rfl (Qm rfl)<|qv rfl (Qm rfl)<|qv rfl (Zc rfl rfl)<|Qa<|Xj rfl (fun h1 => ?_) (fun h1 => ?_)
 · -- h1 True
   replace h1 := of_decide_eq_true h1
   refine qu<|Qe<|Xi<|qs 7 rfl<|qv rfl (Qm rfl)<|qv rfl (Qvn rfl rfl (Ba _) (by decide))<|qv rfl (Bf Pk rfl (by omega) (by omega))<|qe rfl (Qi9 Gq rfl rfl rfl rfl rfl) ?_
   rintro vw2 w2 ⟨gw2, hbw2, Ow2, Gw2⟩
   have z3 := Gw2.size
   have lt4 := Ow2.lt
   refine qv rfl (Qm rfl) ?_
   have B5 := (Qn.gr Ow1_5 Gw2)
   refine qe rfl (Qb2 Wf rfl rfl Ow2 (Qn.rd B5) (by simp [Dq, Bl]; omega) (by simp [Dq, Bl]; omega)) ?_
   rintro vw3 w3 ⟨zw3, gw3, Ow3, Aw3, qw3, rw3, sw3⟩
   have z6 := Aw3.size
   have lt7 := Ow3.lt
   refine qv rfl (Zn rfl)<|Qa<|qg 3 rfl<|qv rfl (Qm rfl)<|qv rfl (Js (Xi8 rfl rfl) (show _ = wv (n >>> (8 * (i + 1))) from by rw [Xgf]))<|qv rfl (Zn rfl)<|Qh<|Xy<|Xl<|qg 3 rfl<|qv rfl (Qm rfl)<|qv rfl (Wj rfl rfl (by omega) (by omega))<|qv rfl (Zn rfl)<|Qh ?_
   have K_8 := (Kp.ka (Kp.gr Kw1 Gw2) Aw3 (by simp <;> first | omega | (split <;> omega)))
   refine ⟨rfl, ⟨i + 1, vw3, zw3, gw3⟩, ?_, ⟨?_, ⟨?_, by omega⟩, K_8⟩, ?_⟩
   · exact Qf
   · omega
   · rw [Qwj]; exact Ow3
   first | omega | (dsimp only; omega)
 replace h1 := of_decide_eq_false h1
 refine Zl<|Xk<|Xk<|Zk<|Xl<|qs 2 rfl<|qv rfl (Qm rfl)<|qv rfl (Zn rfl)<|Qa<|Qo ?_
 obtain rfl : i = s := by omega
 have X9 := (Gr.kp (Gr.refl w) Kw1 (by simp <;> first | omega | (split <;> omega)))
 refine ⟨_, _, rfl, Dj rfl rfl, ?_⟩
 exact ⟨z, g, Ow1_5, by omega, X9⟩
def Oh (ys : List Int) : BitVec 64 := ys.foldl (fun n y => 256#64 * n + wd y) 0#64
theorem Xhr {ys : List Int} {i : Nat} {y : Int} (h : ys[i]? = some y) : Oh (ys.take (i + 1)) = 256#64 * Oh (ys.take i) + wd y := by
  rw [List.take_add_one, h]; simp [Oh]
set_option maxHeartbeats 1000000 in
theorem Qvc (b : Value) (z g o : Nat) (ys : List Int) (hys : ∀ y ∈ ys, 0 ≤ y ∧ y ≤ 255) (hlen : ys.length ≤ 9223372036854775807) (w : World) (hb : Rd w z g o 1 b (ys.map bc)) :
    Calls Tryz.prog 344 [b].toArray w fun e w' => ∃ v, e = .returned v ∧ (v = wv (Oh ys) ∧ Gr w w') := by
 have lt1 := hb.lt
 refine Xe 20 Tryz.func344 rfl rfl rfl<|qs 1 rfl<|qv rfl (Zn rfl)<|qd 1 rfl<|qv rfl (Zn rfl)<|Qa<|Qe<|qs 1 rfl<|qv rfl (Zn rfl)<|Qa<|Xi<|Zq (α := Nat) [3, 4, 5, 6, 7, 8, 9, 10, 11, 12, 13, 14, 15, 16, 17, 18] (fun i => [(4, .int .i64 (i : Int)), (3, wv (Oh (ys.take i)))]) (fun i wr => (i ≤ ys.length) ∧ Kp [] w wr) (fun i => ys.length - i) (0) ?_ ?_ ?_
 · exact Qf
 · exact ⟨Nat.zero_le _, Kp.refl _ _⟩
 rintro i w1 ⟨hi, Kw1⟩
 have z2 := Kw1.size
 refine Qe<|qs 4 rfl<|qv rfl (Qm rfl)<|qv rfl (Qm rfl) ?_
 have B3 := (Rd.kp hb Kw1 (by simp <;> first | omega | (split <;> omega)))
 refine qv rfl (Qom (n := ys.length) Tryz.underlying32 rfl B3 (by simp))<|qv rfl (Zc rfl rfl)<|Qa<|Xj rfl (fun h1 => ?_) (fun h1 => ?_)
 · -- h1 True
   replace h1 := of_decide_eq_true h1
   obtain ⟨y, hy, hym⟩ := Qrr (show i < ys.length by omega)
   have hyb := hys y hym
   refine qu<|Qe<|Xi<|qg 9 rfl<|qv rfl (Qm rfl)<|qv rfl (Pw (a := 256#64) rfl rfl)<|qv rfl (Qm rfl)<|qv rfl (Qm rfl)<|qv rfl (Qkc (n := ys.length) Tryz.underlying32 (Xs).siz rfl B3 (by simp) rfl (by omega) (by omega))<|qv rfl (Qk9 (q := 0) Xs rfl B3 (Dy hy) (by omega) (show _ = some _ from by rfl))<|qv rfl (Qd1 Nw rfl (by omega) (by omega))<|qv rfl (Te rfl rfl)<|qv rfl (Zn rfl)<|Qh<|Xy<|Xl<|qg 3 rfl<|qv rfl (Qm rfl)<|qv rfl (Wj rfl rfl (by omega) (by omega))<|qv rfl (Zn rfl)<|Qh ?_
   have K_4 := Kw1
   refine ⟨rfl, i + 1, ?_, ⟨?_, K_4⟩, ?_⟩
   · repeat' first | exact trivial | refine ⟨by first | rfl | (rw [Xhr hy]; rfl), ?_⟩
   · omega
   first | omega | (dsimp only; omega)
 replace h1 := of_decide_eq_false h1
 obtain rfl : i = ys.length := by omega
 refine Zl<|Xk<|Xk<|Zk<|Xl<|qs 2 rfl<|qv rfl (Qm rfl)<|qv rfl (Zn rfl)<|Qa<|Qo ?_
 have X5 := (Gr.kp (Gr.refl w) Kw1 (by simp <;> first | omega | (split <;> omega)))
 refine ⟨_, _, rfl, Dj rfl rfl, ?_⟩
 exact ⟨by rw [List.take_length], X5⟩
def bw (x : BitVec 64) : List Int := [bt x 0, bt x 1, bt x 2, bt x 3, bt x 4, bt x 5, bt x 6, bt x 7]
theorem Qkw (x : BitVec 64) : Dp x 8 = bw x := rfl
theorem Qph (x : BitVec 64) : ∀ y ∈ bw x, 0 ≤ y ∧ y ≤ 255 := by
  intro y hy
  simp only [bw, List.mem_cons, List.not_mem_nil, or_false] at hy
  rcases hy with rfl | rfl | rfl | rfl | rfl | rfl | rfl | rfl <;> exact ⟨Qhm _ _, Qhl _ _⟩
theorem Xcq (a : BitVec 64) : 256#64 * a = a <<< 8 := by
  apply BitVec.eq_of_toNat_eq
  rw [BitVec.toNat_mul, BitVec.toNat_shiftLeft, Nat.shiftLeft_eq, Nat.mul_comm]; rfl
theorem Qvt (a : BitVec 64) (y : Int) (h0 : 0 ≤ y) (h1 : y ≤ 255) : a <<< 8 + wd y = a <<< 8 ||| wd y := by
  apply BitVec.add_eq_or_of_and_eq_zero
  apply BitVec.eq_of_getLsbD_eq
  intro j hj
  rw [BitVec.getLsbD_and, BitVec.getLsbD_shiftLeft, BitVec.getLsbD_zero]
  by_cases h : j < 8
  · simp [h]
  · have hw : (wd y).toNat < 2 ^ j := by
      have e := Og y h0 (by omega)
      have : (wd y).toNat < 2 ^ 8 := by unfold un at e; omega
      exact Nat.lt_of_lt_of_le this (Nat.pow_le_pow_right (by omega) (by omega))
    have : (wd y).getLsbD j = false := Nat.testBit_lt_two_pow hw
    rw [this]; simp
theorem Mq (x : BitVec 64) (k : Nat) (hk : k < 8) : 256#64 * (x >>> (64 - 8 * k)) + wd (bt x k) = x >>> (64 - 8 * (k + 1)) := by
  rw [Xcq, Qvt _ _ (Qhm x k) (Qhl x k), Iz x k hk]
theorem Qva (x : BitVec 64) : Oh (bw x) = x := by
  have h0 := Mq x 0 (by decide)
  have h1 := Mq x 1 (by decide)
  have h2 := Mq x 2 (by decide)
  have h3 := Mq x 3 (by decide)
  have h4 := Mq x 4 (by decide)
  have h5 := Mq x 5 (by decide)
  have h6 := Mq x 6 (by decide)
  have h7 := Mq x 7 (by decide)
  simp only [Nat.mul_zero, Nat.sub_zero, Qjt] at h0
  simp only [Oh, bw, List.foldl_cons, List.foldl_nil, h0, h1, h2, h3, h4, h5, h6, h7]
  simp
set_option maxHeartbeats 1000000 in
theorem Qul (p : W2) (w : World) :
    Calls Tryz.prog 283 [kv p].toArray w fun e w' => ∃ v, e = .returned v ∧ (v = .tuple [wv p.1, wv p.2].toArray ∧ Gr w w') := by
 refine Xe 8 Tryz.func283 rfl rfl rfl<|qs 3 rfl<|qe rfl (Qy rfl (by rfl)) ?_
 rintro _ w1 ⟨b1, rfl, hbw1, Bw1, Gw1⟩
 have z1 := Gw1.size
 have lt2 := Bw1.lt
 refine qv rfl (Zn rfl)<|qv rfl (Zn rfl)<|Qa<|Qe<|Rz [] [(0, 3), (2, 3), (1, 0), (3, 0), (4, 3), (5, 3)] (by kernel_rfl) (by kernel_rfl) rfl (by kernel_rfl) ?_
 intro w2 Gw2 zw2
 refine Zs rfl rfl rfl (Kp.refl [] w2) (fun w hS => Su (l := 0) (h := 8) Tryz.underlying23 (Xs).siz rfl rfl ⟨_, rfl⟩ (by omega) (by omega) (by omega))<|Zs rfl rfl rfl (Kp.refl [] w2) (fun w hS => Su (l := 8) (h := 16) Tryz.underlying23 (Xs).siz rfl ⟨_, rfl⟩ rfl (by omega) (by omega) (by omega)) ?_
 have B3 := (Bx.gr Bw1 Gw2)
 refine Fg rfl rfl rfl (Kt Qan rfl (Qvc _ _ _ _ (bw p.1) (Qph _) (by simp [bw]) _ (Rl (sz := 1) (xs := (bw p.1).map bc) B3 (Kx rfl) rfl rfl))) ?_
 rintro _ w3 ⟨rfl, Gw3⟩
 have z4 := Gw3.size
 refine ⟨Gw3, ?_⟩
 have B5 := (Bx.gr B3 Gw3)
 refine Fg rfl rfl rfl (Kt Qan rfl (Qvc _ _ _ _ (bw p.2) (Qph _) (by simp [bw]) _ (Rl (sz := 1) (xs := (bw p.2).map bc) B5 (Kx rfl) rfl rfl))) ?_
 rintro _ w4 ⟨rfl, Gw4⟩
 have z6 := Gw4.size
 refine ⟨Gw4, ?_⟩
 have S7 := (Kp.gr (Kp.gr (Kp.refl [] w2) Gw3) Gw4)
 refine Zs rfl rfl rfl S7 (fun w hS => Zn rfl)<|Zs rfl rfl rfl S7 (fun w hS => Zn rfl)<|Qa<|Qo ?_
 have X8 := (Gr.trans (Gr.trans (Gr.trans (Gr.trans (Gr.refl w) Gw1) Gw2) Gw3) Gw4)
 refine ⟨_, _, rfl, Zb rfl (Qg rfl) (Qg rfl), ?_⟩
 exact ⟨by rw [Qva, Qva], X8⟩
def Cg (ys : List Int) (n : Nat) : List Value := (List.range 16).map fun i => if i < n then .int .u8 (ys.getD i 0) else .int .u8 0
theorem Fs (ys : List Int) (n : Nat) : (Cg ys n).length = 16 := by simp [Cg]
theorem Xbt (ys : List Int) : Cg ys 0 = List.replicate 16 (.int .u8 0) := by rfl
theorem Xbu (ys : List Int) (n : Nat) (y : Int) (h : n < 16) (hy : ys[n]? = some y) : (Cg ys n).set (0 + (n : Int).toNat * 1) (.int .u8 y) = Cg ys (n + 1) := by
  have e : 0 + (n : Int).toNat * 1 = n := by omega
  have hd : ys.getD n 0 = y := by simp [List.getD, hy]
  rw [e]
  apply List.ext_getElem?
  intro i
  rw [List.getElem?_set]
  unfold Cg
  by_cases hi : i < 16
  · by_cases h2 : n = i
    · subst h2; simp [h, hy]
    · have : (i < n + 1) = (i < n) := by apply propext; omega
      simp [h2, hi, this]
  · simp [hi]; omega
theorem Qs0 (p : W2) : Cg (bw p.1 ++ bw p.2) 16 = kb p := by rfl
theorem Qw7 (tag : Int) (n : BitVec 64) (h0 : 0 ≤ tag) (h1 : tag ≤ 255) : [tag] ++ Dp 0#64 7 ++ Dp n 8 = bw (Fc tag 0#64 n).1 ++ bw (Fc tag 0#64 n).2 := by
  have e : ∀ i, i < 8 → bt (wd tag <<< 56 ||| 0#64) i = if i = 0 then tag else 0 := by
    intro i hi
    unfold bt
    have hz : wd tag <<< 56 ||| 0#64 = wd tag <<< 56 := by simp
    rw [hz]
    have ht : (wd tag).toNat = tag.toNat := by have := Og tag h0 (by omega); unfold un at this; omega
    have hsh : (wd tag <<< 56).toNat = tag.toNat * 2 ^ 56 := by
      rw [BitVec.toNat_shiftLeft, ht, Nat.shiftLeft_eq, Nat.mod_eq_of_lt]
      have : tag.toNat ≤ 255 := by omega
      omega
    have hun : un ((wd tag <<< 56) >>> (56 - 8 * i)) = ((tag.toNat * 2 ^ 56 / 2 ^ (56 - 8 * i) : Nat) : Int) := by
      unfold un; rw [BitVec.toNat_ushiftRight, hsh, Nat.shiftRight_eq_div_pow]
    have h56 : 8 * i + (56 - 8 * i) = 56 := by omega
    have hpow : (2 : Nat) ^ 56 = 2 ^ (8 * i) * 2 ^ (56 - 8 * i) := by rw [← Nat.pow_add, h56]
    rw [hun, hpow, ← Nat.mul_assoc, Nat.mul_div_cancel _ (Nat.two_pow_pos _)]
    by_cases h : i = 0
    · subst h; rw [if_pos rfl, Nat.mul_zero, Nat.pow_zero, Nat.mul_one]; omega
    · obtain ⟨m, rfl⟩ : ∃ m, i = m + 1 := ⟨i - 1, by omega⟩
      rw [if_neg h, show 8 * (m + 1) = 8 * m + 8 from by omega, Nat.pow_add]
      have : tag.toNat * (2 ^ (8 * m) * 2 ^ 8) = 256 * (tag.toNat * 2 ^ (8 * m)) := by rw [← Nat.mul_assoc, Nat.mul_comm]
      rw [this]; omega
  have hb : bw (Fc tag 0#64 n).1 = [tag, 0, 0, 0, 0, 0, 0, 0] := by
    unfold bw Fc
    rw [e 0 (by decide), e 1 (by decide), e 2 (by decide), e 3 (by decide), e 4 (by decide), e 5 (by decide), e 6 (by decide), e 7 (by decide)]
    simp
  have hz : Dp 0#64 7 = [0, 0, 0, 0, 0, 0, 0] := by decide
  rw [hb, Qkw, hz]
  rfl
set_option maxHeartbeats 1000000 in
theorem Qu9 (b : Value) (z g o : Nat) (p : W2) (ys : List Int) (hys : ys = bw p.1 ++ bw p.2) (w : World) (hb : Rd w z g o 1 b (ys.map bc)) :
    Calls Tryz.prog 289 [b].toArray w fun e w' => ∃ v, e = .returned v ∧ (v = kv p ∧ Gr w w') := by
 have lt1 := hb.lt
 have hlen : ys.length = 16 := by rw [hys]; rfl
 refine Xe 22 Tryz.func289 rfl rfl rfl<|qs 1 rfl<|qe rfl (Xh Zh (by rfl)) ?_
 rintro _ w1 ⟨b1, rfl, hbw1, Bw1, Gw1⟩
 have z2 := Gw1.size
 have lt3 := Bw1.lt
 refine qd 1 rfl<|qe rfl (Xh Zh (by rfl)) ?_
 rintro _ w2 ⟨b2, rfl, hbw2, Bw2, Gw2⟩
 have z4 := Gw2.size
 have lt5 := Bw2.lt
 refine Qa<|Qe<|qs 1 rfl<|qv rfl (Zn rfl)<|Qa<|Xi ?_
 have X6 := (Gr.trans (Gr.trans (Gr.refl w) Gw1) Gw2)
 refine Zq (α := Nat) [4, 5, 6, 7, 8, 9, 10, 11, 12, 13, 14, 15, 16, 17, 18, 19, 20] (fun i => [(4, .int .i64 (i : Int))]) (fun i wr => (i ≤ 16) ∧ Bx wr b2 23 (Cg ys i) ∧ Kp [b2] w2 wr) (fun i => 16 - i) (0) ?_ ?_ ?_
 · exact Qf
 · exact ⟨Nat.zero_le _, (by rw [Xbt]; exact Bw2), Kp.refl _ _⟩
 rintro i w3 ⟨hi, Bw3_b2, Kw3⟩
 have z7 := Kw3.size
 refine Qe<|qs 8 rfl<|qv rfl (Qm rfl)<|qv rfl (Zc rfl rfl)<|qp rfl (Qm rfl) (fun h1 => ?_) (fun h1 => ?_)
 · -- h1 True
   replace h1 := of_decide_eq_true h1
   refine qv rfl (Qm rfl)<|qv rfl (Qm rfl) ?_
   have B8 := (Rd.kp (Rd.gr (Rd.gr hb Gw1) Gw2) Kw3 (by simp <;> first | omega | (split <;> omega)))
   refine qv rfl (Qom (n := 16) Tryz.underlying32 rfl B8 (by rw [List.length_map]; exact hlen))<|qv rfl (Zc rfl rfl)<|qv rfl (Qvl rfl rfl)<|Qa<|Xj rfl (fun h2 => ?_) (fun h2 => ?_)
   · -- h2 True
     replace h2 := of_decide_eq_true h2
     refine qu<|Qe<|Xi<|qg 7 rfl ?_
     obtain ⟨y, hy, hym⟩ := Qrr (show i < ys.length by omega)
     refine qv rfl (Qm rfl)<|qv rfl (Qm rfl)<|qv rfl (Qm rfl)<|qv rfl (Qkc (n := 16) Tryz.underlying32 (Xs).siz rfl B8 (by rw [List.length_map]; exact hlen) rfl (by omega) (by omega))<|qv rfl (Qk9 (q := 0) Xs rfl B8 (Dy hy) (by omega) (show _ = some _ from by rfl))<|qv rfl (Nq Tryz.underlying23 (Xs).siz rfl rfl (by omega) (by omega))<|qe rfl (Es (Xs).siz rfl rfl rfl Bw3_b2 (by rw [Fs]; omega)) ?_
     rintro _ w4 ⟨Bw4, Mw4⟩
     have z9 := Mw4.size
     refine Qh<|Xy<|Xl<|qg 3 rfl<|qv rfl (Qm rfl)<|qv rfl (Wj rfl rfl (by omega) (by omega))<|qv rfl (Zn rfl)<|Qh ?_
     have K_10 := (Kp.md Kw3 Mw4 (by simp <;> first | omega | (split <;> omega)))
     refine ⟨rfl, i + 1, ?_, ⟨?_, ?_, K_10⟩, ?_⟩
     · exact Qf
     · omega
     · rw [← Xbu ys i y (by omega) hy]; exact Bw4
     first | omega | (dsimp only; omega)
   replace h2 := of_decide_eq_false h2
   refine Zl<|Xk<|Xk<|Zk<|Xl<|Qe ?_
   obtain rfl : i = 16 := by omega
   refine qg 2 rfl<|qv rfl (Qp Ql rfl Bw3_b2 (by first | rfl | exact Fs _ _)) ?_
   have B11 := (Bx.kp (Bx.gr Bw1 Gw2) Kw3 (by simp <;> first | omega | (split <;> omega)))
   refine qe rfl (He (Ql).siz rfl rfl (by rfl) (by first | rfl | exact Fs _ _) (by rfl) B11 (by first | rfl | exact Fs _ _)) ?_
   rintro _ w5 ⟨Bw5, Mw5⟩
   have z12 := Mw5.size
   refine Qa<|Qo ?_
   have X13 := (Gr.md (Gr.kp X6 Kw3 (by simp <;> first | omega | (split <;> omega))) Mw5 (by omega))
   refine ⟨_, _, rfl, Tl rfl Ql rfl Bw5 (by first | rfl | exact Fs _ _), ?_⟩
   exact ⟨by rw [hys, Qs0], X13⟩
 replace h1 := of_decide_eq_false h1
 refine qk rfl<|qk rfl<|qk rfl<|qk rfl<|qv rfl (Qvk rfl rfl)<|Qa<|Sr rfl<|Zl<|Xk<|Xk<|Zk<|Xl<|Qe ?_
 obtain rfl : i = 16 := by omega
 refine qg 2 rfl<|qv rfl (Qp Ql rfl Bw3_b2 (by first | rfl | exact Fs _ _)) ?_
 have B14 := (Bx.kp (Bx.gr Bw1 Gw2) Kw3 (by simp <;> first | omega | (split <;> omega)))
 refine qe rfl (He (Ql).siz rfl rfl (by rfl) (by first | rfl | exact Fs _ _) (by rfl) B14 (by first | rfl | exact Fs _ _)) ?_
 rintro _ w6 ⟨Bw6, Mw6⟩
 have z15 := Mw6.size
 refine Qa<|Qo ?_
 have X16 := (Gr.md (Gr.kp X6 Kw3 (by simp <;> first | omega | (split <;> omega))) Mw6 (by omega))
 refine ⟨_, _, rfl, Tl rfl Ql rfl Bw6 (by first | rfl | exact Fs _ _), ?_⟩
 exact ⟨by rw [hys, Qs0], X16⟩
set_option maxHeartbeats 1000000 in
theorem Xea (p : W2) (w : World) :
    Calls Tryz.prog 287 [wv p.1, wv p.2].toArray w fun e w' => ∃ v, e = .returned v ∧ (v = kv p ∧ Gr w w') := by
 refine Xe 11 Tryz.func287 rfl rfl rfl<|qs 1 rfl<|qe rfl (Xh Zh (by rfl)) ?_
 rintro _ w1 ⟨b1, rfl, hbw1, Bw1, Gw1⟩
 have z1 := Gw1.size
 have lt2 := Bw1.lt
 refine qd 7 rfl<|qv rfl (Qm rfl)<|qe rfl (Kt Fh rfl (Qhn _ 8 (by decide) _)) ?_
 rintro v2 w2 ⟨z2_, g2_, O2, hg2, Gw2⟩
 have z3 := Gw2.size
 have lt4 := O2.lt
 refine qv rfl (Qm rfl)<|qe rfl (Kt Fh rfl (Qhn _ 8 (by decide) _)) ?_
 rintro v3 w3 ⟨z3_, g3_, O3, hg3, Gw3⟩
 have z5 := Gw3.size
 have lt6 := O3.lt
 have B7 := (Qn.gr O2 Gw3)
 refine qe rfl (Qb2 Wf rfl rfl B7 (Qn.rd O3) (by simp [Bl]) (by simp [Bl])) ?_
 rintro vw4 w4 ⟨zw4, gw4, Ow4, Aw4, qw4, rw4, sw4⟩
 have z8 := Aw4.size
 have lt9 := Ow4.lt
 refine qe rfl (Kt Qam rfl (Qu9 _ _ _ _ p (Dp p.1 8 ++ Dp p.2 8) (by rw [Qkw, Qkw]) _ (by rw [List.map_append]; exact (Qn.rd Ow4)))) ?_
 rintro _ w5 ⟨rfl, Gw5⟩
 have z10 := Gw5.size
 have B11 := (Bx.gr (Bx.ka (Bx.gr (Bx.gr Bw1 Gw2) Gw3) Aw4 (by omega)) Gw5)
 refine qe rfl (He (Ql).siz rfl rfl (by rfl) (by rfl) (by rfl) B11 (by rfl)) ?_
 rintro _ w6 ⟨Bw6, Mw6⟩
 have z12 := Mw6.size
 refine Qa<|Qo ?_
 have X13 := (Gr.md (Gr.trans (Gr.ka (Gr.trans (Gr.trans (Gr.trans (Gr.refl w) Gw1) Gw2) Gw3) Aw4 (by omega)) Gw5) Mw6 (by omega))
 refine ⟨_, _, rfl, Tl rfl Ql rfl Bw6 (by rfl), ?_⟩
 exact ⟨rfl, X13⟩
theorem Xfx (x : BitVec 64) (n : Nat) (h1 : 1 ≤ n) (h2 : n ≤ 63) : x >>> (n : Int).toNat ||| x <<< (64 - (n : Int)).toNat = Yj x (64 - n) := by
  unfold Yj
  rw [show (n : Int).toNat = n from by omega, show (64 - (n : Int)).toNat = 64 - n from by omega, show 64 - (64 - n) = n from by omega, BitVec.or_comm]
set_option maxHeartbeats 1000000 in
theorem Qo5 (x : BitVec 64) (n : Nat) (h1 : 1 ≤ n) (h2 : n ≤ 63) (w : World) :
    Calls Tryz.prog 285 [wv x, .int .i64 (n : Int)].toArray w fun e w' => ∃ v, e = .returned v ∧ (v = wv (Yj x (64 - n)) ∧ Gr w w') := by
 refine Xe 13 Tryz.func285 rfl rfl rfl<|qs 1 rfl<|qv rfl (Zn rfl)<|Qa<|Qe<|Rz [] [(0, 3), (1, 3), (2, 3), (3, 3), (4, 3), (5, 3), (6, 3), (7, 3), (8, 3)] (by kernel_rfl) (by kernel_rfl) rfl (by kernel_rfl) ?_
 intro w1 Gw1 zw1
 refine Zs rfl rfl rfl (Kp.refl [] w1) (fun w hS => Qm rfl)<|Zs rfl rfl rfl (Kp.refl [] w1) (fun w hS => Qm rfl)<|Zs rfl rfl rfl (Kp.refl [] w1) (fun w hS => Qh9 rfl rfl (by omega))<|Zs rfl rfl rfl (Kp.refl [] w1) (fun w hS => Qm rfl)<|Zs rfl rfl rfl (Kp.refl [] w1) (fun w hS => Qm rfl)<|Zs rfl rfl rfl (Kp.refl [] w1) (fun w hS => Qh8 rfl rfl (by omega) (by omega))<|Zs rfl rfl rfl (Kp.refl [] w1) (fun w hS => Qd4 rfl rfl (by omega))<|Zs rfl rfl rfl (Kp.refl [] w1) (fun w hS => Bg rfl rfl)<|Zs rfl rfl rfl (Kp.refl [] w1) (fun w hS => Zn rfl)<|Qa<|Qo ?_
 have X1 := (Gr.trans (Gr.refl w) Gw1)
 refine ⟨_, _, rfl, Dj rfl rfl, ?_⟩
 exact ⟨by rw [← Xfx x n h1 h2], X1⟩
set_option maxHeartbeats 1000000 in
theorem Quc (x : BitVec 64) (n : Nat) (h1 : 1 ≤ n) (h2 : n ≤ 63) (w : World) :
    Calls Tryz.prog 286 [wv x, .int .i64 (n : Int)].toArray w fun e w' => ∃ v, e = .returned v ∧ (v = wv (Yj x n) ∧ Gr w w') := by
 refine Xe 9 Tryz.func286 rfl rfl rfl<|qs 1 rfl<|qv rfl (Zn rfl)<|qd 5 rfl<|qv rfl (Qm rfl)<|qv rfl (Qm rfl)<|qv rfl (Js (Qh8 rfl rfl (by omega) (by omega)) (show _ = Value.int .i64 ((64 - n : Nat) : Int) from congrArg (Value.int .i64) (by omega)))<|qe rfl (Kt Ei rfl (Qo5 x (64 - n) (by omega) (by omega) _)) ?_
 rintro _ w1 ⟨rfl, Gw1⟩
 have z1 := Gw1.size
 refine qv rfl (Zn rfl)<|Qa<|Qo ?_
 have X2 := (Gr.trans (Gr.refl w) Gw1)
 refine ⟨_, _, rfl, Dj rfl rfl, ?_⟩
 exact ⟨by rw [show 64 - (64 - n) = n from by omega], X2⟩
def Rx (k : W2) (n : Nat) : List (BitVec 64) := (List.range (n + 1)).map fun i => (ks k i).2
theorem Qo2 (k : W2) (n : Nat) : (Rx k n).length = n + 1 := by simp [Rx]
theorem Xfp (k : W2) (n : Nat) : Rx k (n + 1) = Rx k n ++ [(ks k (n + 1)).2] := by simp [Rx, List.range_succ]
theorem Xfo (k : W2) (i : Nat) (h : i < 32) : (Rx k 31)[i]? = some (ks k i).2 := by simp [Rx, h]
theorem Qmr (k : W2) (i : Nat) : (ks k (i + 1)).1 = ((ks k i).2 + Yj (ks k i).1 56) ^^^ wd (i : Int) := by simp [ks, Lk, BitVec.add_comm]
theorem Qs8 (k : W2) (i : Nat) : (ks k (i + 1)).2 = Yj (ks k i).2 3 ^^^ (ks k (i + 1)).1 := by simp [ks, Lk]
set_option maxHeartbeats 1000000 in
theorem Xfq (k : W2) (w : World) :
    Calls Tryz.prog 284 [kv k].toArray w fun e w' => ∃ v, e = .returned v ∧ (∃ z g, Qn w' z g 24 1 v ((Rx k 31).map uc) ∧ (z = 0 ∨ w.heap.size ≤ g) ∧ Gr w w') := by
 refine Xe 34 Tryz.func284 rfl rfl rfl<|qs 2 rfl<|qe rfl (Qy rfl (by rfl)) ?_
 rintro _ w1 ⟨b1, rfl, hbw1, Bw1, Gw1⟩
 have z1 := Gw1.size
 have lt2 := Bw1.lt
 refine qv rfl (Zn rfl)<|qd 7 rfl<|qv rfl (Qp Ql rfl Bw1 (by rfl))<|qe rfl (Kt Qe6 rfl (Qul _ _)) ?_
 rintro _ w2 ⟨rfl, Gw2⟩
 have z3 := Gw2.size
 refine qv rfl (Qm rfl)<|qv rfl (Qh4 rfl rfl)<|qv rfl (Qh4 rfl rfl)<|qv rfl (Zn rfl)<|qv rfl (Zn rfl)<|qd 3 rfl<|qv rfl (Qm rfl)<|qe rfl (Qi9 Lu rfl rfl rfl rfl rfl) ?_
 rintro vw3 w3 ⟨gw3, hbw3, Ow3, Gw3⟩
 have z4 := Gw3.size
 have lt5 := Ow3.lt
 refine qv rfl (Zn rfl)<|Qa<|Qe<|qs 1 rfl<|qv rfl (Zn rfl)<|Qa<|Xi ?_
 have X6 := (Gr.trans (Gr.trans (Gr.trans (Gr.refl w) Gw1) Gw2) Gw3)
 refine Zq (α := Nat × Value × Nat × Nat) [3, 4, 5, 6, 14, 15, 16, 17, 18, 19, 20, 21, 22, 23, 24, 25, 26, 27, 28, 29, 30, 31, 32] (fun ⟨i, v, z, g⟩ => [(6, .int .i64 (i : Int)), (3, wv (ks k i).1), (4, wv (ks k i).2), (5, v)]) (fun ⟨i, v, z, g⟩ wr => (i ≤ 31) ∧ (Qn wr z g 24 1 v ((Rx k i).map uc) ∧ (z = 0 ∨ g = gw3 ∨ w3.heap.size ≤ g)) ∧ Kp [gw3] w3 wr) (fun ⟨i, v, z, g⟩ => 31 - i) (⟨0, vw3, 1, gw3⟩) ?_ ?_ ?_
 · exact Qf
 · exact ⟨Nat.zero_le _, ⟨Ow3, .inr (.inl rfl)⟩, Kp.refl _ _⟩
 rintro ⟨i, v, z, g⟩ w4 ⟨hi, ⟨Ow4_5, hOw4_5⟩, Kw4⟩
 have z7 := Kw4.size
 have lt8 := Ow4_5.lt
 refine Qe<|qs 2 rfl<|qv rfl (Qm rfl)<|qv rfl (Zc rfl rfl)<|Qa<|Xj rfl (fun h1 => ?_) (fun h1 => ?_)
 · -- h1 True
   replace h1 := of_decide_eq_true h1
   refine qu<|Qe<|Xi<|qs 8 rfl<|qv rfl (Qm rfl)<|qv rfl (Qm rfl)<|qe rfl (Kt Ei rfl (Qo5 _ 8 (by decide) (by decide) _)) ?_
   rintro _ w5 ⟨rfl, Gw5⟩
   have z9 := Gw5.size
   refine qv rfl (Te rfl rfl)<|qv rfl (Qm rfl)<|qv rfl (Qd1 Ye rfl (by omega) (by omega))<|qv rfl (Ns rfl rfl)<|qv rfl (Zn rfl)<|qd 5 rfl<|qv rfl (Qm rfl)<|qe rfl (Kt Qe7 rfl (Quc _ 3 (by decide) (by decide) _)) ?_
   rintro _ w6 ⟨rfl, Gw6⟩
   have z10 := Gw6.size
   refine qv rfl (Qm rfl)<|qv rfl (Ns rfl rfl)<|qv rfl (Zn rfl)<|Qa<|qg 5 rfl<|qv rfl (Qm rfl)<|qv rfl (Qm rfl)<|qe rfl (Qi9 Lu rfl rfl rfl rfl rfl) ?_
   rintro vw7 w7 ⟨gw7, hbw7, Ow7, Gw7⟩
   have z11 := Gw7.size
   have lt12 := Ow7.lt
   have B13 := (Qn.gr (Qn.gr (Qn.gr Ow4_5 Gw5) Gw6) Gw7)
   refine qe rfl (Qb2 Ow rfl rfl B13 (Qn.rd Ow7) (by simp [Dq, Qo2]; omega) (by simp [Dq, Qo2]; omega)) ?_
   rintro vw8 w8 ⟨zw8, gw8, Ow8, Aw8, qw8, rw8, sw8⟩
   have z14 := Aw8.size
   have lt15 := Ow8.lt
   refine qv rfl (Zn rfl)<|Qh<|Xy<|Xl<|qg 3 rfl<|qv rfl (Qm rfl)<|qv rfl (Wj rfl rfl (by omega) (by omega))<|qv rfl (Zn rfl)<|Qh ?_
   have K_16 := (Kp.ka (Kp.gr (Kp.gr (Kp.gr Kw4 Gw5) Gw6) Gw7) Aw8 (by simp <;> first | omega | (split <;> omega)))
   refine ⟨rfl, ⟨i + 1, vw8, zw8, gw8⟩, ?_, ⟨?_, ⟨?_, by omega⟩, K_16⟩, ?_⟩
   · repeat' first | exact trivial | refine ⟨by first | rfl | (rw [Qmr]; rfl) | (rw [Qs8, Qmr]; rfl), ?_⟩
   · omega
   · rw [Xfp, List.map_append, Qs8, Qmr]; exact Ow8
   first | omega | (dsimp only; omega)
 replace h1 := of_decide_eq_false h1
 refine Zl<|Xk<|Xk<|Zk<|Xl<|qs 2 rfl<|qv rfl (Qm rfl)<|qv rfl (Zn rfl)<|Qa<|Qo ?_
 obtain rfl : i = 31 := by omega
 have X17 := (Gr.kp X6 Kw4 (by simp <;> first | omega | (split <;> omega)))
 refine ⟨_, _, rfl, Dj rfl rfl, ?_⟩
 exact ⟨z, g, Ow4_5, by omega, X17⟩
theorem Qr1 (k b : W2) (i : Nat) : (Ga k b (i + 1)).1 = (Yj (Ga k b i).1 56 + (Ga k b i).2) ^^^ (ks k i).2 := by rw [Qm5]; rfl
theorem Xa9 (k b : W2) (i : Nat) : (Ga k b (i + 1)).2 = Yj (Ga k b i).2 3 ^^^ (Ga k b (i + 1)).1 := by rw [Qm5]; rfl
set_option maxHeartbeats 1000000 in
theorem Qct (k b : W2) (w : World) :
    Calls Tryz.prog 180 [kv k, kv b].toArray w fun e w' => ∃ v, e = .returned v ∧ (v = kv (Wn k b) ∧ Gr w w') := by
 refine Xe 36 Tryz.func180 rfl rfl rfl<|qs 3 rfl<|qe rfl (Qy rfl (by rfl)) ?_
 rintro _ w1 ⟨b1, rfl, hbw1, Bw1, Gw1⟩
 have z1 := Gw1.size
 have lt2 := Bw1.lt
 refine qe rfl (Qy rfl (by rfl)) ?_
 rintro _ w2 ⟨b2, rfl, hbw2, Bw2, Gw2⟩
 have z3 := Gw2.size
 have lt4 := Bw2.lt
 refine qe rfl (Xh Zh (by rfl)) ?_
 rintro _ w3 ⟨b3, rfl, hbw3, Bw3, Gw3⟩
 have z5 := Gw3.size
 have lt6 := Bw3.lt
 refine qd 7 rfl ?_
 have B7 := (Bx.gr Bw2 Gw3)
 refine qv rfl (Qp Ql rfl B7 (by rfl))<|qe rfl (Kt Qe6 rfl (Qul _ _)) ?_
 rintro _ w4 ⟨rfl, Gw4⟩
 have z8 := Gw4.size
 refine qv rfl (Qm rfl)<|qv rfl (Qh4 rfl rfl)<|qv rfl (Qh4 rfl rfl)<|qv rfl (Zn rfl)<|qv rfl (Zn rfl)<|qd 3 rfl ?_
 have B9 := (Bx.gr (Bx.gr (Bx.gr Bw1 Gw2) Gw3) Gw4)
 refine qv rfl (Qp Ql rfl B9 (by rfl))<|qe rfl (Kt Qlu rfl (Xfq _ _)) ?_
 rintro v5 w5 ⟨z5_, g5_, O5, hg5, Gw5⟩
 have z10 := Gw5.size
 have lt11 := O5.lt
 refine qv rfl (Zn rfl)<|Qa<|Qe<|qs 1 rfl<|qv rfl (Zn rfl)<|Qa<|Xi ?_
 have X12 := (Gr.trans (Gr.trans (Gr.trans (Gr.trans (Gr.trans (Gr.refl w) Gw1) Gw2) Gw3) Gw4) Gw5)
 refine Zq (α := Nat) [5, 6, 8, 16, 17, 18, 19, 20, 21, 22, 23, 24, 25, 26, 27, 28, 29, 30, 31, 32] (fun i => [(8, .int .i64 (i : Int)), (5, wv (Ga k b i).1), (6, wv (Ga k b i).2)]) (fun i wr => (i ≤ 32) ∧ Kp [] w5 wr) (fun i => 32 - i) (0) ?_ ?_ ?_
 · exact Qf
 · exact ⟨Nat.zero_le _, Kp.refl _ _⟩
 rintro i w6 ⟨hi, Kw6⟩
 have z13 := Kw6.size
 refine Qe<|qs 2 rfl<|qv rfl (Qm rfl)<|qv rfl (Zc rfl rfl)<|Qa<|Xj rfl (fun h1 => ?_) (fun h1 => ?_)
 · -- h1 True
   replace h1 := of_decide_eq_true h1
   refine qu<|Qe<|Xi<|Qe<|Rz [] [(0, 3), (2, 3), (4, 3), (5, 3), (6, 3), (7, 3), (1, 0), (3, 3), (8, 3), (9, 3)] (by kernel_rfl) (by kernel_rfl) rfl (by kernel_rfl) ?_
   intro w7 Gw7 zw7
   refine Zs rfl rfl rfl (Kp.refl [] w7) (fun w hS => Qm rfl)<|Zs rfl rfl rfl (Kp.refl [] w7) (fun w hS => Qm rfl)<|Zs rfl rfl rfl (Kp.refl [] w7) (fun w hS => Qm rfl)<|Zs rfl rfl rfl (Kp.refl [] w7) (fun w hS => Qm rfl) ?_
   have B14 := (Qn.gr (Qn.kp O5 Kw6 (by simp <;> first | omega | (split <;> omega))) Gw7)
   refine Zs rfl rfl rfl (Kp.refl [] w7) (fun w hS => Qkc (n := 32) Tryz.underlying308 (Xm).siz rfl (Qn.rd (Qn.kp B14 hS (by simp <;> first | omega | (split <;> omega)))) (by simp [Qo2]) rfl (by omega) (by omega))<|Zs rfl rfl rfl (Kp.refl [] w7) (fun w hS => Qk9 (q := 0) Xm rfl (Qn.rd (Qn.kp B14 hS (by simp <;> first | omega | (split <;> omega)))) (Dy (Xfo k i (by omega))) (by omega) (show _ = some _ from by rfl))<|Fg rfl rfl rfl (Kt Ei rfl (Qo5 _ 8 (by decide) (by decide) _)) ?_
   rintro _ w8 ⟨rfl, Gw8⟩
   have z15 := Gw8.size
   refine ⟨Gw8, ?_⟩
   have S16 := (Kp.gr (Kp.refl [] w7) Gw8)
   refine Zs rfl rfl rfl S16 (fun w hS => Te rfl rfl)<|Zs rfl rfl rfl S16 (fun w hS => Ns rfl rfl)<|Zs rfl rfl rfl S16 (fun w hS => Zn rfl)<|Qa<|qg 5 rfl<|qv rfl (Qm rfl)<|qe rfl (Kt Qe7 rfl (Quc _ 3 (by decide) (by decide) _)) ?_
   rintro _ w9 ⟨rfl, Gw9⟩
   have z17 := Gw9.size
   refine qv rfl (Qm rfl)<|qv rfl (Ns rfl rfl)<|qv rfl (Zn rfl)<|Qh<|Xy<|Xl<|qg 3 rfl<|qv rfl (Qm rfl)<|qv rfl (Wj rfl rfl (by omega) (by omega))<|qv rfl (Zn rfl)<|Qh ?_
   have K_18 := (Kp.gr (Kp.gr (Kp.gr Kw6 Gw7) Gw8) Gw9)
   refine ⟨rfl, i + 1, ?_, ⟨?_, K_18⟩, ?_⟩
   · repeat' first | exact trivial | refine ⟨by first | rfl | (rw [Qr1]; rfl) | (rw [Xa9, Qr1]; rfl), ?_⟩
   · omega
   first | omega | (dsimp only; omega)
 replace h1 := of_decide_eq_false h1
 refine Zl<|Xk<|Xk<|Zk<|Xl<|Qe ?_
 obtain rfl : i = 32 := by omega
 refine qg 4 rfl<|qv rfl (Qm rfl)<|qv rfl (Qm rfl)<|qe rfl (Kt Qlv rfl (Xea (Wn k b) _)) ?_
 rintro _ w10 ⟨rfl, Gw10⟩
 have z19 := Gw10.size
 have B20 := (Bx.gr (Bx.kp (Bx.gr (Bx.gr Bw3 Gw4) Gw5) Kw6 (by simp <;> first | omega | (split <;> omega))) Gw10)
 refine qe rfl (He (Ql).siz rfl rfl (by rfl) (by rfl) (by rfl) B20 (by rfl)) ?_
 rintro _ w11 ⟨Bw11, Mw11⟩
 have z21 := Mw11.size
 refine Qa<|Qo ?_
 have X22 := (Gr.md (Gr.trans (Gr.kp X12 Kw6 (by simp <;> first | omega | (split <;> omega))) Gw10) Mw11 (by omega))
 refine ⟨_, _, rfl, Tl rfl Ql rfl Bw11 (by rfl), ?_⟩
 exact ⟨rfl, X22⟩
set_option maxHeartbeats 1000000 in
theorem Xe8 (tag : Int) (h0 : 0 ≤ tag) (h1 : tag ≤ 255) (n : BitVec 64) (w : World) :
    Calls Tryz.prog 185 [.int .u8 tag, wv 0#64, wv n].toArray w fun e w' => ∃ v, e = .returned v ∧ (v = kv (Fc tag 0#64 n) ∧ Gr w w') := by
 refine Xe 18 Tryz.func185 rfl rfl rfl<|qs 1 rfl<|qe rfl (Xh Zh (by rfl)) ?_
 rintro _ w1 ⟨b1, rfl, hbw1, Bw1, Gw1⟩
 have z1 := Gw1.size
 have lt2 := Bw1.lt
 refine qd 6 rfl<|qv rfl (Qm rfl)<|qe rfl (Qi9 Gq rfl rfl rfl rfl rfl) ?_
 rintro vw2 w2 ⟨gw2, hbw2, Ow2, Gw2⟩
 have z3 := Gw2.size
 have lt4 := Ow2.lt
 refine qv rfl (Qm rfl)<|qe rfl (Kt Fh rfl (Qhn _ 7 (by decide) _)) ?_
 rintro v3 w3 ⟨z3_, g3_, O3, hg3, Gw3⟩
 have z5 := Gw3.size
 have lt6 := O3.lt
 have B7 := (Qn.gr Ow2 Gw3)
 refine qe rfl (Qb2 Wf rfl rfl B7 (Qn.rd O3) (by simp [Bl, Dq]) (by simp [Bl, Dq])) ?_
 rintro vw4 w4 ⟨zw4, gw4, Ow4, Aw4, qw4, rw4, sw4⟩
 have z8 := Aw4.size
 have lt9 := Ow4.lt
 refine qv rfl (Zn rfl)<|qd 6 rfl<|qv rfl (Qm rfl)<|qv rfl (Qm rfl)<|qe rfl (Kt Fh rfl (Qhn _ 8 (by decide) _)) ?_
 rintro v5 w5 ⟨z5_, g5_, O5, hg5, Gw5⟩
 have z10 := Gw5.size
 have lt11 := O5.lt
 have B12 := (Qn.gr Ow4 Gw5)
 refine qe rfl (Qb2 Wf rfl rfl B12 (Qn.rd O5) (by simp [Bl, Dq]) (by simp [Bl, Dq])) ?_
 rintro vw6 w6 ⟨zw6, gw6, Ow6, Aw6, qw6, rw6, sw6⟩
 have z13 := Aw6.size
 have lt14 := Ow6.lt
 refine qe rfl (Kt Qam rfl (Qu9 _ _ _ _ (Fc tag 0#64 n) ([tag] ++ Dp 0#64 7 ++ Dp n 8) (Qw7 tag n h0 h1) _ (by rw [List.map_append, List.map_append]; exact (Qn.rd Ow6)))) ?_
 rintro _ w7 ⟨rfl, Gw7⟩
 have z15 := Gw7.size
 have B16 := (Bx.gr (Bx.ka (Bx.gr (Bx.ka (Bx.gr (Bx.gr Bw1 Gw2) Gw3) Aw4 (by omega)) Gw5) Aw6 (by omega)) Gw7)
 refine qe rfl (He (Ql).siz rfl rfl (by rfl) (by rfl) (by rfl) B16 (by rfl)) ?_
 rintro _ w8 ⟨Bw8, Mw8⟩
 have z17 := Mw8.size
 refine Qa<|Qo ?_
 have X18 := (Gr.md (Gr.trans (Gr.ka (Gr.trans (Gr.ka (Gr.trans (Gr.trans (Gr.trans (Gr.refl w) Gw1) Gw2) Gw3) Aw4 (by omega)) Gw5) Aw6 (by omega)) Gw7) Mw8 (by omega))
 refine ⟨_, _, rfl, Tl rfl Ql rfl Bw8 (by rfl), ?_⟩
 exact ⟨rfl, X18⟩
set_option maxHeartbeats 1000000 in
theorem Td (k : W2) (tag : Int) (h0 : 0 ≤ tag) (h1 : tag ≤ 255) (n : BitVec 64) (w : World) :
    Calls Tryz.prog 103 [kv k, .int .u8 tag, wv n].toArray w fun e w' => ∃ v, e = .returned v ∧ (v = kv (Jk k tag n) ∧ Gr w w') := by
 refine Xe 12 Tryz.func103 rfl rfl rfl<|qs 2 rfl<|qe rfl (Qy rfl (by rfl)) ?_
 rintro _ w1 ⟨b1, rfl, hbw1, Bw1, Gw1⟩
 have z1 := Gw1.size
 have lt2 := Bw1.lt
 refine qe rfl (Xh Zh (by rfl)) ?_
 rintro _ w2 ⟨b2, rfl, hbw2, Bw2, Gw2⟩
 have z3 := Gw2.size
 have lt4 := Bw2.lt
 refine Qa<|Qe<|Rz [b2] [(0, 3), (1, 3), (2, 3), (3, 0), (4, 0), (5, 2)] (by kernel_rfl) (by kernel_rfl) rfl (by kernel_rfl) ?_
 intro w3 Gw3 zw3
 have B5 := (Bx.gr (Bx.gr Bw1 Gw2) Gw3)
 refine Zs rfl rfl rfl (Kp.refl [b2] w3) (fun w hS => Qp Ql rfl (Bx.kp B5 hS (by simp <;> first | omega | (split <;> omega))) (by rfl))<|Zs rfl rfl rfl (Kp.refl [b2] w3) (fun w hS => Qm rfl)<|Zs rfl rfl rfl (Kp.refl [b2] w3) (fun w hS => Qm rfl)<|Fg rfl rfl rfl (Kt Qe1 rfl (Xe8 _ (by omega) (by omega) _ _)) ?_
 rintro _ w4 ⟨rfl, Gw4⟩
 have z6 := Gw4.size
 refine ⟨Gw4, ?_⟩
 refine Fg rfl rfl rfl (Kt Eh rfl (Qct _ _ _)) ?_
 rintro _ w5 ⟨rfl, Gw5⟩
 have z7 := Gw5.size
 refine ⟨Gw5, ?_⟩
 have B8 := (Bx.gr (Bx.gr (Bx.gr Bw2 Gw3) Gw4) Gw5)
 refine Eg (b := b2) rfl rfl rfl rfl (He (Ql).siz rfl rfl (by rfl) (by rfl) (by rfl) B8 (by rfl)) (by first | exact Or.inl (by simp) | exact Or.inr (by omega)) ?_
 rintro _ w6 ⟨Bw6, Mw6⟩
 have z9 := Mw6.size
 refine ⟨Mw6, ?_⟩
 refine Qa<|Qo ?_
 have X10 := (Gr.md (Gr.trans (Gr.trans (Gr.trans (Gr.trans (Gr.trans (Gr.refl w) Gw1) Gw2) Gw3) Gw4) Gw5) Mw6 (by omega))
 refine ⟨_, _, rfl, Tl rfl Ql rfl Bw6 (by rfl), ?_⟩
 exact ⟨rfl, X10⟩
end Go.Proofs.YtgdojjniakpadaaGreat

end
section
set_option linter.unusedVariables false
set_option linter.unusedSimpArgs false
namespace Go.Proofs.YtgdojjniakpadaaGreat
open Go Go.RowKit Go.Sx
theorem Tg : CV Tryz.prog 5 3 .i64 := fun _ _ _ => by kernel_rfl
theorem Qzt : En Tryz.prog 385 := fun _ _ => by kernel_rfl
theorem Xcm (n k : Nat) (h : 2 ^ k ≤ n) : Nat.log2 n = Nat.log2 (n / 2 ^ k) + k := by
  induction k generalizing n with
  | zero => simp
  | succ k ih =>
    have h2 : 2 ^ k ≤ n / 2 := by rw [Nat.le_div_iff_mul_le (by omega)]; rw [Nat.pow_succ] at h; omega
    have h1 : 2 ≤ n := by have : 0 < 2 ^ k := Nat.two_pow_pos k; rw [Nat.pow_succ] at h; omega
    rw [Nat.log2_def, if_pos h1, ih (n / 2) h2, Nat.div_div_eq_div_mul, Nat.pow_succ, Nat.mul_comm 2]; omega
theorem Nf (a : Int) (k m : Nat) (hm : 2 ^ k = m) (h : (m : Int) ≤ a) : lg a = lg (a / (m : Int)) + k := by
  obtain ⟨n, rfl⟩ := Int.eq_ofNat_of_zero_le (show 0 ≤ a by omega)
  subst hm
  have hp : 0 < 2 ^ k := Nat.two_pow_pos k
  have h' : 2 ^ k ≤ n := by omega
  have e : ((n : Int) / ((2 ^ k : Nat) : Int)).toNat = n / 2 ^ k := by rw [← Int.natCast_ediv]; rfl
  have h1 : ¬ (n / 2 ^ k = 0) := by rw [Nat.div_eq_zero_iff]; omega
  unfold lg
  rw [e, Int.toNat_natCast, if_neg h1, if_neg (by omega), Xcm n k h']
  omega
def Sf : ByteArray := ⟨#[0, 1, 2, 2, 3, 3, 3, 3, 4, 4, 4, 4, 4, 4, 4, 4, 5, 5, 5, 5, 5, 5, 5, 5, 5, 5, 5, 5, 5, 5, 5, 5, 6, 6, 6, 6, 6, 6, 6, 6, 6, 6, 6, 6, 6, 6, 6, 6, 6, 6, 6, 6, 6, 6, 6, 6, 6, 6, 6, 6, 6, 6, 6, 6, 7, 7, 7, 7, 7, 7, 7, 7, 7, 7, 7, 7, 7, 7, 7, 7, 7, 7, 7, 7, 7, 7, 7, 7, 7, 7, 7, 7, 7, 7, 7, 7, 7, 7, 7, 7, 7, 7, 7, 7, 7, 7, 7, 7, 7, 7, 7, 7, 7, 7, 7, 7, 7, 7, 7, 7, 7, 7, 7, 7, 7, 7, 7, 7, 8, 8, 8, 8, 8, 8, 8, 8, 8, 8, 8, 8, 8, 8, 8, 8, 8, 8, 8, 8, 8, 8, 8, 8, 8, 8, 8, 8, 8, 8, 8, 8, 8, 8, 8, 8, 8, 8, 8, 8, 8, 8, 8, 8, 8, 8, 8, 8, 8, 8, 8, 8, 8, 8, 8, 8, 8, 8, 8, 8, 8, 8, 8, 8, 8, 8, 8, 8, 8, 8, 8, 8, 8, 8, 8, 8, 8, 8, 8, 8, 8, 8, 8, 8, 8, 8, 8, 8, 8, 8, 8, 8, 8, 8, 8, 8, 8, 8, 8, 8, 8, 8, 8, 8, 8, 8, 8, 8, 8, 8, 8, 8, 8, 8, 8, 8, 8, 8, 8, 8, 8, 8, 8, 8, 8, 8, 8, 8]⟩
theorem Xcj : ∀ k : Fin 256, Sf[k.1]? = some (UInt8.ofNat (lg (k.1 : Int)).toNat) ∧ lg (k.1 : Int) = ((UInt8.ofNat (lg (k.1 : Int)).toNat).toNat : Int) := by decide +kernel
theorem Hy {a : Int} (h0 : 0 ≤ a) (h1 : a < 256) : Sf[a.toNat]? = some (UInt8.ofNat (lg a).toNat) ∧ lg a = ((UInt8.ofNat (lg a).toNat).toNat : Int) := by
  obtain ⟨n, rfl⟩ := Int.eq_ofNat_of_zero_le h0
  exact Xcj ⟨n, by omega⟩
theorem Cm (a : Int) : -9223372036854775808 ≤ lg a := by unfold lg; split <;> omega
theorem Cl {a : Int} (h0 : 0 ≤ a) (h1 : a < 256) : lg a ≤ 9223372036854775807 := by have := (Hy h0 h1).2; have := (UInt8.ofNat (lg a).toNat).toNat_lt; omega
theorem Ci {b : Int} (a : Int) (h : 0 ≤ b) : -9223372036854775808 ≤ b + lg a := by unfold lg; split <;> omega
theorem Cj {a b : Int} (h0 : 0 ≤ a) (h1 : a < 256) (hb : b ≤ 1000) : b + lg a ≤ 9223372036854775807 := by have := (Hy h0 h1).2; have := (UInt8.ofNat (lg a).toNat).toNat_lt; omega
set_option maxRecDepth 20000 in
set_option maxHeartbeats 1000000 in
theorem Xci (a : Int) (ha1 : 0 ≤ a) (ha2 : a < 18446744073709551616) (w : World) :
    Calls Tryz.prog 385 [.int .u64 a].toArray w fun e w' => ∃ v, e = .returned v ∧ (v = .int .i64 (lg a) ∧ Gr w w') := by
 refine Xe 25 Tryz.func385 rfl rfl rfl<|qs 1 rfl<|qv rfl (Zn rfl)<|Qa<|Qe<|qs 2 rfl<|qv rfl (Qm rfl)<|qv rfl (Kl rfl rfl)<|Qa<|Xj rfl (fun h1 => ?_) (fun h1 => ?_)
 · -- h1 True
   replace h1 := of_decide_eq_true h1
   refine qs 3 rfl<|qv rfl (Qm rfl)<|qv rfl (Ol (n := 32) (m := 4294967296) rfl rfl rfl (by decide))<|qv rfl (Zn rfl)<|Qa<|qg 1 rfl<|qv rfl (Zn rfl)<|Qa<|Qe<|qs 2 rfl<|qv rfl (Qm rfl)<|qv rfl (Kl rfl rfl)<|Qa<|Xj rfl (fun h2 => ?_) (fun h2 => ?_)
   · -- h2 True
     replace h2 := of_decide_eq_true h2
     refine qs 3 rfl<|qv rfl (Qm rfl)<|qv rfl (Ol (n := 16) (m := 65536) rfl rfl rfl (by decide))<|qv rfl (Zn rfl)<|Qa<|qg 3 rfl<|qv rfl (Qm rfl)<|qv rfl (Wj rfl rfl (by omega) (by omega))<|qv rfl (Zn rfl)<|Qa<|Qe<|qs 2 rfl<|qv rfl (Qm rfl)<|qv rfl (Kl rfl rfl)<|Qa<|Xj rfl (fun h3 => ?_) (fun h3 => ?_)
     · -- h3 True
       replace h3 := of_decide_eq_true h3
       refine qs 3 rfl<|qv rfl (Qm rfl)<|qv rfl (Ol (n := 8) (m := 256) rfl rfl rfl (by decide))<|qv rfl (Zn rfl)<|Qa<|qg 3 rfl<|qv rfl (Qm rfl)<|qv rfl (Wj rfl rfl (by omega) (by omega))<|qv rfl (Zn rfl)<|qd 7 rfl<|qv rfl (Qm rfl)<|qv rfl (Qm rfl)<|qv rfl (Bf Pk rfl (by omega) (by omega))<|qv rfl (Js (Mt Tryz.underlying9 rfl rfl (by omega) (show Sf[_]? = _ from (Hy (by omega) (by omega)).1)) (congrArg (Value.int .u8) (Hy (by omega) (by omega)).2.symm))<|qv rfl (Bd Tg rfl (Cm _) (Cl (by omega) (by omega)))<|qv rfl (Wj rfl rfl (Ci _ (by decide)) (Cj (by omega) (by omega) (by decide)))<|qv rfl (Zn rfl)<|Qa<|Qo<|⟨_, _, rfl, Dj rfl rfl, ?_⟩
       refine ⟨congrArg (Value.int .i64) ?_, (Gr.refl w)⟩
       have e0 : lg (a : Int) = lg ((a : Int) / 4294967296) + 32 := Nf (a : Int) 32 4294967296 (by decide) (by omega)
       have e1 : lg ((a : Int) / 4294967296) = lg (((a : Int) / 4294967296) / 65536) + 16 := Nf ((a : Int) / 4294967296) 16 65536 (by decide) (by omega)
       have e2 : lg (((a : Int) / 4294967296) / 65536) = lg ((((a : Int) / 4294967296) / 65536) / 256) + 8 := Nf (((a : Int) / 4294967296) / 65536) 8 256 (by decide) (by omega)
       omega
     replace h3 := of_decide_eq_false h3
     refine qu<|qs 7 rfl<|qv rfl (Qm rfl)<|qv rfl (Qm rfl)<|qv rfl (Bf Pk rfl (by omega) (by omega))<|qv rfl (Js (Mt Tryz.underlying9 rfl rfl (by omega) (show Sf[_]? = _ from (Hy (by omega) (by omega)).1)) (congrArg (Value.int .u8) (Hy (by omega) (by omega)).2.symm))<|qv rfl (Bd Tg rfl (Cm _) (Cl (by omega) (by omega)))<|qv rfl (Wj rfl rfl (Ci _ (by decide)) (Cj (by omega) (by omega) (by decide)))<|qv rfl (Zn rfl)<|Qa<|Qo<|⟨_, _, rfl, Dj rfl rfl, ?_⟩
     refine ⟨congrArg (Value.int .i64) ?_, (Gr.refl w)⟩
     have e0 : lg (a : Int) = lg ((a : Int) / 4294967296) + 32 := Nf (a : Int) 32 4294967296 (by decide) (by omega)
     have e1 : lg ((a : Int) / 4294967296) = lg (((a : Int) / 4294967296) / 65536) + 16 := Nf ((a : Int) / 4294967296) 16 65536 (by decide) (by omega)
     omega
   replace h2 := of_decide_eq_false h2
   refine qu<|Qe<|qs 2 rfl<|qv rfl (Qm rfl)<|qv rfl (Kl rfl rfl)<|Qa<|Xj rfl (fun h4 => ?_) (fun h4 => ?_)
   · -- h4 True
     replace h4 := of_decide_eq_true h4
     refine qs 3 rfl<|qv rfl (Qm rfl)<|qv rfl (Ol (n := 8) (m := 256) rfl rfl rfl (by decide))<|qv rfl (Zn rfl)<|Qa<|qg 3 rfl<|qv rfl (Qm rfl)<|qv rfl (Wj rfl rfl (by omega) (by omega))<|qv rfl (Zn rfl)<|qd 7 rfl<|qv rfl (Qm rfl)<|qv rfl (Qm rfl)<|qv rfl (Bf Pk rfl (by omega) (by omega))<|qv rfl (Js (Mt Tryz.underlying9 rfl rfl (by omega) (show Sf[_]? = _ from (Hy (by omega) (by omega)).1)) (congrArg (Value.int .u8) (Hy (by omega) (by omega)).2.symm))<|qv rfl (Bd Tg rfl (Cm _) (Cl (by omega) (by omega)))<|qv rfl (Wj rfl rfl (Ci _ (by decide)) (Cj (by omega) (by omega) (by decide)))<|qv rfl (Zn rfl)<|Qa<|Qo<|⟨_, _, rfl, Dj rfl rfl, ?_⟩
     refine ⟨congrArg (Value.int .i64) ?_, (Gr.refl w)⟩
     have e0 : lg (a : Int) = lg ((a : Int) / 4294967296) + 32 := Nf (a : Int) 32 4294967296 (by decide) (by omega)
     have e1 : lg ((a : Int) / 4294967296) = lg (((a : Int) / 4294967296) / 256) + 8 := Nf ((a : Int) / 4294967296) 8 256 (by decide) (by omega)
     omega
   replace h4 := of_decide_eq_false h4
   refine qu<|qs 7 rfl<|qv rfl (Qm rfl)<|qv rfl (Qm rfl)<|qv rfl (Bf Pk rfl (by omega) (by omega))<|qv rfl (Js (Mt Tryz.underlying9 rfl rfl (by omega) (show Sf[_]? = _ from (Hy (by omega) (by omega)).1)) (congrArg (Value.int .u8) (Hy (by omega) (by omega)).2.symm))<|qv rfl (Bd Tg rfl (Cm _) (Cl (by omega) (by omega)))<|qv rfl (Wj rfl rfl (Ci _ (by decide)) (Cj (by omega) (by omega) (by decide)))<|qv rfl (Zn rfl)<|Qa<|Qo<|⟨_, _, rfl, Dj rfl rfl, ?_⟩
   refine ⟨congrArg (Value.int .i64) ?_, (Gr.refl w)⟩
   have e0 : lg (a : Int) = lg ((a : Int) / 4294967296) + 32 := Nf (a : Int) 32 4294967296 (by decide) (by omega)
   omega
 replace h1 := of_decide_eq_false h1
 refine qu<|Qe<|qs 2 rfl<|qv rfl (Qm rfl)<|qv rfl (Kl rfl rfl)<|Qa<|Xj rfl (fun h5 => ?_) (fun h5 => ?_)
 · -- h5 True
   replace h5 := of_decide_eq_true h5
   refine qs 3 rfl<|qv rfl (Qm rfl)<|qv rfl (Ol (n := 16) (m := 65536) rfl rfl rfl (by decide))<|qv rfl (Zn rfl)<|Qa<|qg 3 rfl<|qv rfl (Qm rfl)<|qv rfl (Wj rfl rfl (by omega) (by omega))<|qv rfl (Zn rfl)<|Qa<|Qe<|qs 2 rfl<|qv rfl (Qm rfl)<|qv rfl (Kl rfl rfl)<|Qa<|Xj rfl (fun h6 => ?_) (fun h6 => ?_)
   · -- h6 True
     replace h6 := of_decide_eq_true h6
     refine qs 3 rfl<|qv rfl (Qm rfl)<|qv rfl (Ol (n := 8) (m := 256) rfl rfl rfl (by decide))<|qv rfl (Zn rfl)<|Qa<|qg 3 rfl<|qv rfl (Qm rfl)<|qv rfl (Wj rfl rfl (by omega) (by omega))<|qv rfl (Zn rfl)<|qd 7 rfl<|qv rfl (Qm rfl)<|qv rfl (Qm rfl)<|qv rfl (Bf Pk rfl (by omega) (by omega))<|qv rfl (Js (Mt Tryz.underlying9 rfl rfl (by omega) (show Sf[_]? = _ from (Hy (by omega) (by omega)).1)) (congrArg (Value.int .u8) (Hy (by omega) (by omega)).2.symm))<|qv rfl (Bd Tg rfl (Cm _) (Cl (by omega) (by omega)))<|qv rfl (Wj rfl rfl (Ci _ (by decide)) (Cj (by omega) (by omega) (by decide)))<|qv rfl (Zn rfl)<|Qa<|Qo<|⟨_, _, rfl, Dj rfl rfl, ?_⟩
     refine ⟨congrArg (Value.int .i64) ?_, (Gr.refl w)⟩
     have e0 : lg (a : Int) = lg ((a : Int) / 65536) + 16 := Nf (a : Int) 16 65536 (by decide) (by omega)
     have e1 : lg ((a : Int) / 65536) = lg (((a : Int) / 65536) / 256) + 8 := Nf ((a : Int) / 65536) 8 256 (by decide) (by omega)
     omega
   replace h6 := of_decide_eq_false h6
   refine qu<|qs 7 rfl<|qv rfl (Qm rfl)<|qv rfl (Qm rfl)<|qv rfl (Bf Pk rfl (by omega) (by omega))<|qv rfl (Js (Mt Tryz.underlying9 rfl rfl (by omega) (show Sf[_]? = _ from (Hy (by omega) (by omega)).1)) (congrArg (Value.int .u8) (Hy (by omega) (by omega)).2.symm))<|qv rfl (Bd Tg rfl (Cm _) (Cl (by omega) (by omega)))<|qv rfl (Wj rfl rfl (Ci _ (by decide)) (Cj (by omega) (by omega) (by decide)))<|qv rfl (Zn rfl)<|Qa<|Qo<|⟨_, _, rfl, Dj rfl rfl, ?_⟩
   refine ⟨congrArg (Value.int .i64) ?_, (Gr.refl w)⟩
   have e0 : lg (a : Int) = lg ((a : Int) / 65536) + 16 := Nf (a : Int) 16 65536 (by decide) (by omega)
   omega
 replace h5 := of_decide_eq_false h5
 refine qu<|Qe<|qs 2 rfl<|qv rfl (Qm rfl)<|qv rfl (Kl rfl rfl)<|Qa<|Xj rfl (fun h7 => ?_) (fun h7 => ?_)
 · -- h7 True
   replace h7 := of_decide_eq_true h7
   refine qs 3 rfl<|qv rfl (Qm rfl)<|qv rfl (Ol (n := 8) (m := 256) rfl rfl rfl (by decide))<|qv rfl (Zn rfl)<|Qa<|qg 3 rfl<|qv rfl (Qm rfl)<|qv rfl (Wj rfl rfl (by omega) (by omega))<|qv rfl (Zn rfl)<|qd 7 rfl<|qv rfl (Qm rfl)<|qv rfl (Qm rfl)<|qv rfl (Bf Pk rfl (by omega) (by omega))<|qv rfl (Js (Mt Tryz.underlying9 rfl rfl (by omega) (show Sf[_]? = _ from (Hy (by omega) (by omega)).1)) (congrArg (Value.int .u8) (Hy (by omega) (by omega)).2.symm))<|qv rfl (Bd Tg rfl (Cm _) (Cl (by omega) (by omega)))<|qv rfl (Wj rfl rfl (Ci _ (by decide)) (Cj (by omega) (by omega) (by decide)))<|qv rfl (Zn rfl)<|Qa<|Qo<|⟨_, _, rfl, Dj rfl rfl, ?_⟩
   refine ⟨congrArg (Value.int .i64) ?_, (Gr.refl w)⟩
   have e0 : lg (a : Int) = lg ((a : Int) / 256) + 8 := Nf (a : Int) 8 256 (by decide) (by omega)
   omega
 replace h7 := of_decide_eq_false h7
 refine qu<|qs 7 rfl<|qv rfl (Qm rfl)<|qv rfl (Qm rfl)<|qv rfl (Bf Pk rfl (by omega) (by omega))<|qv rfl (Js (Mt Tryz.underlying9 rfl rfl (by omega) (show Sf[_]? = _ from (Hy (by omega) (by omega)).1)) (congrArg (Value.int .u8) (Hy (by omega) (by omega)).2.symm))<|qv rfl (Bd Tg rfl (Cm _) (Cl (by omega) (by omega)))<|qv rfl (Wj rfl rfl (Ci _ (by decide)) (Cj (by omega) (by omega) (by decide)))<|qv rfl (Zn rfl)<|Qa<|Qo<|⟨_, _, rfl, Dj rfl rfl, ?_⟩
 refine ⟨congrArg (Value.int .i64) ?_, (Gr.refl w)⟩
 omega
set_option maxHeartbeats 1000000 in
theorem Xck (a : Int) (ha1 : 0 ≤ a) (ha2 : a < 18446744073709551616) (w : World) :
    Calls Tryz.prog 356 [.int .u64 a].toArray w fun e w' => ∃ v, e = .returned v ∧ (v = .int .i64 (lg a) ∧ Gr w w') := by
 refine Xe 8 Tryz.func356 rfl rfl rfl<|qs 1 rfl<|qv rfl (Zn rfl)<|Qa<|Qe<|Sr rfl<|qu<|qs 3 rfl<|qv rfl (Qm rfl)<|qe rfl (Kt Qzt rfl (Xci _ (by omega) (by omega) _)) ?_
 rintro _ w1 ⟨rfl, Gw1⟩
 have z1 := Gw1.size
 refine qv rfl (Zn rfl)<|Qa<|Qo ?_
 have X2 := (Gr.trans (Gr.refl w) Gw1)
 refine ⟨_, _, rfl, Dj rfl rfl, ?_⟩
 exact ⟨rfl, X2⟩
end Go.Proofs.YtgdojjniakpadaaGreat

end
section
set_option linter.unusedVariables false
set_option linter.unusedSimpArgs false
namespace Go.Sx
open Go Go.RowKit Go.Proofs Go.Sort Go.Shelf
section
variable {P : Program} {ρ : Ren}
end
end Go.Sx

end
section
set_option linter.unusedVariables false
set_option linter.unusedSimpArgs false
set_option maxRecDepth 100000
namespace Go.Proofs.YtgdojjniakpadaaGreat.Mx
open Go Go.RowKit Go.Sx Go.Proofs Go.Shelf Go.Lib Go.Sort
end Go.Proofs.YtgdojjniakpadaaGreat.Mx

end
section
set_option linter.unusedVariables false
set_option linter.unusedSimpArgs false
namespace Go.Sx
open Go
theorem Qvr : Xb = 18446744073709551615 + 1 := rfl
theorem Ki {n : Nat} (h : n < 9223372036854775808) : n < Xb := by unfold Xb; omega
theorem Xu {n : Int} (h0 : -9223372036854775808 ≤ n) (h1 : n ≤ 9223372036854775807) : Qi n = n := by
  have := IntKind.wrap_i64 n
  unfold Qi; rw [this]; omega
theorem bind_some {α β : Type} (a : α) (f : α → Option β) : Option.bind (some a) f = f a := rfl
theorem Vd {α : Type} {b : Nat} {l m : List α} (h : (l.length + m.length) * b ≤ 140737488355328) : Ks b l m = some (l ++ m) := if_pos h
theorem Kd {α : Type} {l : List α} {i : Nat} (h : i < l.length) : Xt l (i : Int) = some l[i] := by unfold Xt; rw [if_pos (by omega)]; simp [h]
theorem Gi {α : Type} (l : List α) (i : Nat) (h : i < l.length) : l.take (i + 1) = l.take i ++ [l[i]] := by rw [List.take_add_one]; simp [h]
def w8 (x : BitVec 64) : List (BitVec 8) := [Kg x 0, Kg x 1, Kg x 2, Kg x 3, Kg x 4, Kg x 5, Kg x 6, Kg x 7]
theorem Sv (x : BitVec 64) : (w8 x).length = 8 := rfl
theorem Qxm (x : BitVec 64) : x / 256#64 = x >>> 8 := by
  apply BitVec.eq_of_toNat_eq
  rw [BitVec.toNat_udiv, BitVec.toNat_ushiftRight, Nat.shiftRight_eq_div_pow]; rfl
theorem Qnz (x : BitVec 64) : (x % 256#64).setWidth 8 = x.setWidth 8 := by
  apply BitVec.eq_of_toNat_eq
  rw [BitVec.toNat_setWidth, BitVec.toNat_setWidth, BitVec.toNat_umod]
  have : (256#64 : BitVec 64).toNat = 256 := rfl
  rw [this]; omega
theorem Qnh (x : BitVec 64) : Rk x 256#64 = some (x >>> 8) := by unfold Rk; rw [if_neg (by decide), Qxm]
theorem Qo1 (x : BitVec 64) : Kk x 256#64 = some (x % 256#64) := by unfold Kk; rw [if_neg (by decide)]
def Tc (n : Nat) (s : List (BitVec 8)) : List (BitVec 8) := s.take n ++ List.replicate (n - s.length) 0#8
theorem Qn7 (n : Nat) (s : List (BitVec 8)) : (Tc n s).length = n := by simp [Tc]; omega
end Go.Sx

end
section
set_option linter.unusedVariables false
set_option linter.unusedSimpArgs false
set_option maxRecDepth 100000
namespace Go.Sx
open Go
structure VA (a : Za) : Prop where
  w1 : 1 ≤ a.Word
  w2 : a.Word ≤ 1000
  e1 : a.Word ≤ a.Epoch
  e2 : a.Epoch ≤ 1000 * a.Word
  e3 : a.Epoch.tmod a.Word = 0
  y0 : 0 ≤ a.Early
  r0 : 0 ≤ a.Drift
  d0 : 0 ≤ a.Delay
  s1 : 2 * a.Drift + a.Delay < 3 * a.Word
  s2 : a.Early + a.Delay ≤ a.Epoch
theorem Xhq (a : Za) : ∃ b, Rv a = some b ∧ (b = true → VA a) := by
  have hJ : Sk a true = some false := rfl
  have hK : Li a true = some false := rfl
  unfold Rv
  by_cases h1 : a.Word < 1
  · rw [if_pos h1]; exact ⟨false, hJ, fun h => by cases h⟩
  rw [if_neg h1]
  by_cases h2 : 1000 < a.Word
  · rw [if_pos h2]; exact ⟨false, hJ, fun h => by cases h⟩
  rw [if_neg h2]
  by_cases h3 : a.Epoch < a.Word
  · rw [if_pos h3]; exact ⟨false, hJ, fun h => by cases h⟩
  rw [if_neg h3, Xu (n := 1000 * a.Word) (by omega) (by omega)]
  by_cases h4 : 1000 * a.Word < a.Epoch
  · rw [if_pos h4]; exact ⟨false, hJ, fun h => by cases h⟩
  rw [if_neg h4]
  unfold Kv
  rw [if_neg (show ¬ a.Word = 0 from by omega), bind_some]
  by_cases h5 : a.Epoch.tmod a.Word ≠ 0
  · rw [decide_eq_true h5]; exact ⟨false, hJ, fun h => by cases h⟩
  rw [decide_eq_false h5]
  unfold Sk
  rw [cond_false]
  by_cases h6 : a.Early < 0
  · rw [if_pos h6]; exact ⟨false, hK, fun h => by cases h⟩
  rw [if_neg h6]
  by_cases h7 : a.Drift < 0
  · rw [if_pos h7]; exact ⟨false, hK, fun h => by cases h⟩
  rw [if_neg h7]
  by_cases h8 : a.Delay < 0
  · rw [if_pos h8]; exact ⟨false, hK, fun h => by cases h⟩
  rw [if_neg h8]
  by_cases h9 : a.Epoch < a.Early
  · rw [if_pos h9]; exact ⟨false, hK, fun h => by cases h⟩
  rw [if_neg h9]
  by_cases h10 : 3000 < a.Drift
  · rw [if_pos h10]; exact ⟨false, hK, fun h => by cases h⟩
  rw [if_neg h10]
  by_cases h11 : 3000 < a.Delay
  · rw [decide_eq_true h11]; exact ⟨false, hK, fun h => by cases h⟩
  rw [decide_eq_false h11]
  unfold Li
  rw [cond_false, Xu (n := 2 * a.Drift) (by omega) (by omega), Xu (n := 2 * a.Drift + a.Delay) (by omega) (by omega), Xu (n := 3 * a.Word) (by omega) (by omega), Xu (n := a.Early + a.Delay) (by omega) (by omega)]
  by_cases h12 : 2 * a.Drift + a.Delay < 3 * a.Word
  · rw [if_pos h12]
    exact ⟨_, rfl, fun h => ⟨by omega, by omega, by omega, by omega, by omega, by omega, by omega, by omega, h12, of_decide_eq_true h⟩⟩
  · rw [if_neg h12]; exact ⟨false, rfl, fun h => by cases h⟩
theorem Qwk {a : Za} (h : VA a) : Lw a = some 0 := by
  obtain ⟨w1, w2, e1, e2, e3, y0, r0, d0, s1, s2⟩ := h
  unfold Lw
  rw [if_neg (by omega), if_neg (by omega), if_neg (by omega), Xu (n := 1000 * a.Word) (by omega) (by omega), if_neg (by omega)]
  unfold Kv
  rw [if_neg (show ¬ a.Word = 0 from by omega), bind_some, decide_eq_false (by omega)]
  unfold Lx
  have hm : ¬ Hh (Hh a.Early a.Drift) a.Delay < 0 := by unfold Hh; omega
  rw [cond_false, if_neg hm, Xu (n := 3 * a.Word) (by omega) (by omega), if_neg (by omega), if_neg (by omega), Xu (n := 2 * a.Drift) (by omega) (by omega), Xu (n := 2 * a.Drift + a.Delay) (by omega) (by omega), if_neg (by omega), Xu (n := a.Epoch - a.Delay) (by omega) (by omega), decide_eq_false (by omega)]
  rfl
theorem Qfi {a b : Int} (h0 : 0 ≤ a) (h1 : a ≤ 9223372036854775807) (hb : 0 < b) : Yy a b = some (a / b) := by
  unfold Yy
  have e : a.tdiv b = a / b := Int.tdiv_eq_ediv_of_nonneg h0
  have h2 : 0 ≤ a / b := Int.ediv_nonneg h0 (by omega)
  have h3 : a / b ≤ a := Int.ediv_le_self _ h0
  rw [if_neg (by omega), e, Xu (by omega) (by omega)]
theorem Xfn {a b : Int} (h0 : 0 ≤ a) (hb : 0 < b) : Kv a b = some (a % b) := by
  unfold Kv
  rw [if_neg (by omega), Int.tmod_eq_emod_of_nonneg h0]
theorem Quv {a : Za} (h : VA a) {l : Int} (h0 : -1099511627776 ≤ l) (h1 : l ≤ 2199023255552) : Qb1 a l = some (max (l - a.Drift - a.Delay) 0, l + a.Drift) := by
  obtain ⟨w1, w2, e1, e2, e3, y0, r0, d0, s1, s2⟩ := h
  unfold Qb1
  rw [Xu (n := l - a.Drift) (by omega) (by omega), Xu (n := l - a.Drift - a.Delay) (by omega) (by omega), Xu (n := l + a.Drift) (by omega) (by omega)]
  unfold Di
  congr 2
  omega
end Go.Sx

end
section
set_option linter.unusedVariables false
set_option linter.unusedSimpArgs false
namespace Go.Sx
open Go
theorem Qmy (n k : Nat) (h : 2 ^ k ≤ n) : Nat.log2 n = Nat.log2 (n / 2 ^ k) + k := by
  induction k generalizing n with
  | zero => simp
  | succ k ih =>
    have h2 : 2 ^ k ≤ n / 2 := by rw [Nat.le_div_iff_mul_le (by omega)]; rw [Nat.pow_succ] at h; omega
    have h1 : 2 ≤ n := by have : 0 < 2 ^ k := Nat.two_pow_pos k; rw [Nat.pow_succ] at h; omega
    rw [Nat.log2_def, if_pos h1, ih (n / 2) h2, Nat.div_div_eq_div_mul, Nat.pow_succ, Nat.mul_comm 2]; omega
theorem Qmz {n : Nat} (h : 2 ≤ n) : Nat.log2 n = Nat.log2 (n / 2) + 1 := by rw [Nat.log2_def, if_pos h]
theorem Qsg {m n : Nat} (h : m ≤ n) : Nat.log2 m ≤ Nat.log2 n := by
  rcases Nat.eq_zero_or_pos m with h0 | h0
  · subst h0; rw [Nat.log2_zero]; omega
  · exact (Nat.le_log2 (by omega)).2 (Nat.le_trans (Nat.log2_self_le (by omega)) h)
theorem Qbe {n : Nat} (h : n < 9223372036854775808) : Nat.log2 n ≤ 62 := by
  rcases Nat.eq_zero_or_pos n with h0 | h0
  · subst h0; rw [Nat.log2_zero]; omega
  · have : Nat.log2 n < 63 := (Nat.log2_lt (by omega)).2 (by omega)
    omega
theorem Xhp {n : Nat} (h : n < 9223372036854775808) : un (wd (n : Int)) = (n : Int) := Og _ (by omega) (by omega)
theorem Xcl {n : Nat} (h : 1 ≤ n) : lg (n : Int) = (Nat.log2 n : Int) + 1 := by unfold lg; rw [Int.toNat_natCast, if_neg (by omega)]
theorem Qf0 {n : Nat} (h1 : 1 ≤ n) (h : n < 9223372036854775808) : Nv (n : Int) = some (Nat.log2 n : Int) := by
  have := Qbe h
  unfold Nv
  rw [Xhp h, Xcl h1, Xu (by omega) (by omega), Int.add_sub_cancel]
theorem Qng (n : Nat) (h : n < 9223372036854775808) : Yy (n : Int) 2 = some ((n / 2 : Nat) : Int) := by
  unfold Yy
  rw [if_neg (by decide), show (n : Int).tdiv 2 = ((n / 2 : Nat) : Int) from by rw [Int.tdiv_eq_ediv_of_nonneg (by omega)]; omega, Xu (by omega) (by omega)]
theorem Qub : ∀ (f n k : Nat), n < 9223372036854775808 → Nat.log2 n < f → k + Nat.log2 n ≤ 1000 → Qr Qc7 f ((n : Int), (k : Int)) = some ((k + Nat.log2 n : Nat) : Int)
  | 0, n, k, _, h, _ => by omega
  | f + 1, n, k, h, hf, hk => by
    rw [Zt]; simp only [Qc7]
    by_cases h2 : 2 ≤ n
    · have hh := Qmz h2
      rw [if_pos (by omega), Qng n h, bind_some, Xu (by omega) (by omega)]
      have := Qub f (n / 2) (k + 1) (by omega) (by omega) (by omega)
      rw [show (k : Int) + 1 = ((k + 1 : Nat) : Int) from by omega, this, hh]; congr 2; omega
    · rw [if_neg (by omega)]
      have : Nat.log2 n = 0 := by rw [Nat.log2_def, if_neg (by omega)]
      rw [this, Nat.add_zero]
theorem Xfs {n : Nat} (h : n < 9223372036854775808) : Qfx (n : Int) = some (Nat.log2 n : Int) := by
  have := Qbe h
  have := Qub Xb n 0 h (Ki (by omega)) (by omega)
  unfold Qfx
  rw [show (0 : Int) = ((0 : Nat) : Int) from rfl, this, Nat.zero_add]
def Yv (w v : Nat) : Bool := decide (Nat.log2 v ≤ Nat.log2 w ∧ w / 2 ^ (Nat.log2 w - Nat.log2 v) = v)
theorem Qw3 {w v : Nat} (hv : 1 ≤ v) (h : v < w) : Yv w v = Yv (w / 2) v := by
  have hh := Qmz (n := w) (by omega)
  have hm := Qsg (Nat.le_of_lt h)
  unfold Yv
  by_cases hl : Nat.log2 v ≤ Nat.log2 (w / 2)
  · have e : Nat.log2 w - Nat.log2 v = (Nat.log2 (w / 2) - Nat.log2 v) + 1 := by omega
    have e2 : w / 2 ^ (Nat.log2 w - Nat.log2 v) = w / 2 / 2 ^ (Nat.log2 (w / 2) - Nat.log2 v) := by rw [e, Nat.div_div_eq_div_mul, Nat.pow_succ, Nat.mul_comm 2]
    rw [e2]
    apply decide_eq_decide.2
    constructor
    · rintro ⟨_, h2⟩; exact ⟨hl, h2⟩
    · rintro ⟨_, h2⟩; exact ⟨hm, h2⟩
  · rw [decide_eq_false (p := _ ∧ w / 2 / 2 ^ _ = v) (fun hc => hl hc.1)]
    apply decide_eq_false
    rintro ⟨_, h2⟩
    rw [show Nat.log2 w - Nat.log2 v = 0 from by omega, Nat.pow_zero, Nat.div_one] at h2
    omega
theorem Qw2 {w v : Nat} (hw : 1 ≤ w) (h : w ≤ v) : Yv w v = decide (w = v) := by
  unfold Yv
  by_cases e : w = v
  · subst e; simp
  · rw [decide_eq_false e]
    apply decide_eq_false
    rintro ⟨h1, h2⟩
    have := Qsg h
    rw [show Nat.log2 w - Nat.log2 v = 0 from by omega, Nat.pow_zero, Nat.div_one] at h2
    exact e h2
theorem Qoc (n k : Nat) (hk : k ≤ 64) : Oa (n : Int) k = ((n / 2 ^ k : Nat) : Int) := by
  unfold Oa
  rw [Nat.min_eq_left hk, Int.natCast_ediv, Int.natCast_pow]; rfl
theorem Qkp {w v : Nat} (hw : 1 ≤ w) (hv : 1 ≤ v) (hw2 : w < 9223372036854775808) (hv2 : v < 9223372036854775808) : Gu (w : Int) (v : Int) = some (Yv w v) := by
  have l1 := Qbe hw2
  have l2 := Qbe hv2
  unfold Gu Uv
  rw [if_neg (by omega), if_neg (by omega), Qf0 hw hw2, bind_some, Qf0 hv hv2, bind_some]
  by_cases h : Nat.log2 w < Nat.log2 v
  · rw [decide_eq_true (by omega)]
    unfold Yv
    rw [decide_eq_false (by omega)]; rfl
  · rw [decide_eq_false (by omega)]
    simp only [cond_false]
    rw [bind_some, bind_some, Xu (by omega) (by omega)]
    have : Jq ((Nat.log2 w : Int) - (Nat.log2 v : Int)) = some (Nat.log2 w - Nat.log2 v) := by unfold Jq; rw [if_pos (by omega)]; congr 1; omega
    rw [this, bind_some, Qoc _ _ (by omega)]
    unfold Yv
    congr 1
    apply decide_eq_decide.2
    constructor
    · intro h3; exact ⟨by omega, by omega⟩
    · intro h3; omega
theorem Qtn {v : Nat} (hv : 1 ≤ v) : ∀ (f w : Nat), 1 ≤ w → w < 9223372036854775808 → Nat.log2 w < f → Qr (Qc5 (v : Int)) f (w : Int) = some (Yv w v)
  | 0, w, _, _, h => by omega
  | f + 1, w, hw, hw2, hf => by
    rw [Zt]; simp only [Qc5]
    by_cases h : v < w
    · have hh := Qmz (n := w) (by omega)
      rw [if_pos (by omega), Qng w hw2, bind_some, Qtn hv f (w / 2) (by omega) (by omega) (by omega), Qw3 hv h]
    · rw [if_neg (by omega), Qw2 hw (by omega)]
      congr 1
      apply decide_eq_decide.2; omega
theorem Qni {w v : Nat} (hw : 1 ≤ w) (hv : 1 ≤ v) (hw2 : w < 9223372036854775808) : Ro (w : Int) (v : Int) = some (Yv w v) := by
  have := Qbe hw2
  exact Qtn hv Xb w hw hw2 (Ki (by omega))
def Pd (d : Nat) : Nat := if d ≤ 1 then 1 else if d ≤ 4 then 2 else 3
theorem Qv0 (d : Nat) : 1 ≤ Pd d := by unfold Pd; split; omega; split <;> omega
theorem Qnk : ∀ d : Fin 7, Lh (d.1 : Int) = some ((2 ^ d.1 : Nat) : Int) := by decide +kernel
theorem Qfk {d : Nat} (h : d ≤ 6) : Lh (d : Int) = some ((2 ^ d : Nat) : Int) := Qnk ⟨d, by omega⟩
theorem Xgx : ∀ d : Fin 7, Qg0 (d.1 : Int) = some ((Pd d.1 : Nat) : Int) := by decide +kernel
theorem Xg0 {d : Nat} (h : d ≤ 6) : Qg0 (d : Int) = some ((Pd d : Nat) : Int) := Xgx ⟨d, by omega⟩
theorem Cs {d : Nat} (h : d ≤ 6) : 2 ^ d ≤ 64 := Nat.le_trans (Nat.pow_le_pow_right (by omega) h) (by decide)
theorem Qjs {d : Nat} (h : d ≤ 6) : Pc 1 d = ((2 ^ d : Nat) : Int) := by
  have := Cs h
  unfold Pc
  rw [Nat.min_eq_left (by omega), Int.one_mul, show (2 : Int) ^ d = ((2 ^ d : Nat) : Int) from by rw [Int.natCast_pow]; rfl]
  generalize 2 ^ d = m at *
  exact Xu (by omega) (by omega)
theorem Qgv (n : Nat) : Jq (n : Int) = some n := by unfold Jq; rw [if_pos (by omega)]; rfl
theorem Qus {k : BitVec 8} {d : Nat} {st : Int} (h : d ≤ 6) : Eb ⟨k, (d : Int), st⟩ = some ((2 ^ d : Nat) : Int) := by
  unfold Eb
  rw [Qgv, bind_some, Qjs h]
def Sb (d : Nat) (v : Int) : Bool := decide (1 ≤ v ∧ v < 2 * (2 ^ d : Nat))
theorem Qim {k : BitVec 8} {d : Nat} {st v : Int} (h : d ≤ 6) : Qaf ⟨k, (d : Int), st⟩ v = some (Sb d v) := by
  have := Cs h
  unfold Qaf Sb
  by_cases h1 : 1 ≤ v
  · rw [if_pos h1, Qus h, bind_some]
    generalize 2 ^ d = m at *
    rw [Xu (by omega) (by omega)]
    congr 1; apply decide_eq_decide.2; omega
  · rw [if_neg h1]; congr 1; symm; apply decide_eq_false; omega
theorem Qsr {d : Nat} {v : Int} (h : d ≤ 6) : Qc8 (d : Int) v = some (Sb d v) := by
  have := Cs h
  unfold Qc8 Sb
  by_cases h1 : 1 ≤ v
  · rw [if_pos h1, Qfk h, bind_some]
    generalize 2 ^ d = m at *
    rw [Xu (by omega) (by omega)]
    congr 1; apply decide_eq_decide.2; omega
  · rw [if_neg h1]; congr 1; symm; apply decide_eq_false; omega
theorem Qrt {d : Nat} {v : Int} (hd : d ≤ 6) (h : Sb d v = true) : ∃ n : Nat, v = (n : Int) ∧ 1 ≤ n ∧ n < 128 := by
  have := Cs hd
  unfold Sb at h
  generalize 2 ^ d = m at *
  have := of_decide_eq_true h
  exact ⟨v.toNat, by omega, by omega, by omega⟩
def Ll (d v : Nat) : Bool := decide (Nat.log2 v % Pd d = 0)
theorem Qjl (a b : Nat) (hb : 1 ≤ b) : Kv (a : Int) (b : Int) = some ((a % b : Nat) : Int) := by
  unfold Kv
  rw [if_neg (by omega), Int.tmod_eq_emod_of_nonneg (by omega), Int.natCast_emod]
theorem Quw {k : BitVec 8} {d v : Nat} (hv : 1 ≤ v) (hv2 : v < 9223372036854775808) : Ec ⟨k, (d : Int), (Pd d : Int)⟩ (v : Int) = some (Ll d v) := by
  unfold Ec Ll
  rw [Qf0 hv hv2, bind_some, Qjl _ _ (Qv0 d), bind_some]
  congr 1; apply decide_eq_decide.2; omega
theorem Quh {d v : Nat} (hd : d ≤ 6) (hv2 : v < 9223372036854775808) : Ia (d : Int) (v : Int) = some (Ll d v) := by
  unfold Ia Ll
  rw [Xfs hv2, bind_some, Xg0 hd, bind_some, Qjl _ _ (Qv0 d), bind_some]
  congr 1; apply decide_eq_decide.2; omega
def Vv (w : Nat) : Nat → List Nat
  | 0 => []
  | k + 1 => w / 2 ^ k :: Vv w k
theorem Xdr (w k : Nat) : Vv w (k + 1) = Vv (w / 2) k ++ [w] := by
  induction k with
  | zero => simp [Vv]
  | succ k ih => rw [Vv, ih, Vv, List.cons_append, Nat.div_div_eq_div_mul, Nat.pow_succ, Nat.mul_comm 2]
theorem Qbp (w k : Nat) : (Vv w k).length = k := by
  induction k with
  | zero => rfl
  | succ k ih => simp [Vv, ih]
theorem Qt7 {w k n : Nat} (hk : 2 ^ k ≤ w) (h : n ∈ Vv w k) : 1 ≤ n ∧ n ≤ w := by
  induction k with
  | zero => cases h
  | succ k ih =>
    have hk' : 2 ^ k ≤ w := by rw [Nat.pow_succ] at hk; omega
    rcases List.mem_cons.1 h with rfl | h
    · exact ⟨(Nat.le_div_iff_mul_le (Nat.two_pow_pos k)).2 (by omega), Nat.div_le_self _ _⟩
    · exact ih hk' h
theorem Qsf {w k : Nat} (hk : 2 ^ k ≤ w) : Nat.log2 (w / 2 ^ k) = Nat.log2 w - k := by have := Qmy w k hk; omega
theorem Qxn {w k : Nat} (hk : 2 ^ k ≤ w) : 1 ≤ w / 2 ^ k := (Nat.le_div_iff_mul_le (Nat.two_pow_pos k)).2 (by omega)
theorem Xhd {w k : Nat} (hk : 2 ^ (k + 1) ≤ w) (hw : w < 9223372036854775808) : Bp ((w / 2 ^ (k + 1) : Nat) : Int) (w : Int) = some ((w / 2 ^ k : Nat) : Int) := by
  have hp := Nat.two_pow_pos (k + 1)
  have l1 := Qbe hw
  have hl := Qmy w (k + 1) hk
  unfold Bp
  rw [Qf0 (by omega) hw, bind_some, Qf0 (Qxn hk) (Nat.lt_of_le_of_lt (Nat.div_le_self _ _) hw), bind_some, Xu (n := (Nat.log2 w : Int) - (Nat.log2 (w / 2 ^ (k + 1)) : Int)) (by omega) (by omega), Xu (by omega) (by omega)]
  rw [show (Nat.log2 w : Int) - (Nat.log2 (w / 2 ^ (k + 1)) : Int) - 1 = ((k : Nat) : Int) from by omega, Qgv, bind_some, Qoc _ _ (by omega)]
theorem Qt9 {w : Nat} (hw : w < 9223372036854775808) : ∀ (k f : Nat), k < f → 2 ^ k ≤ w → Qr (Uy (w : Int)) f ((w / 2 ^ k : Nat) : Int) = some ((Vv w k).map Int.ofNat)
  | k, 0, h, _ => by omega
  | 0, f + 1, _, _ => by
    rw [Zt]; simp only [Uy]
    rw [if_neg (by simp)]; rfl
  | k + 1, f + 1, h, hk => by
    rw [Zt]; simp only [Uy]
    have h1 : w / 2 ^ (k + 1) < w := Nat.div_lt_self (by have := Nat.two_pow_pos (k + 1); omega) (Nat.one_lt_two_pow (by omega))
    rw [if_pos (by omega), Xhd hk hw, bind_some, Qt9 hw k f (by omega) (by rw [Nat.pow_succ] at hk; omega)]
    rfl
theorem Qt8 {w k : Nat} (hw : w < 9223372036854775808) (hk : 2 ^ k ≤ w) (hk2 : k ≤ 64) : Qac ((w / 2 ^ k : Nat) : Int) (w : Int) = some ((Vv w k).map Int.ofNat) := Qt9 hw k Xb (Ki (by omega)) hk
theorem Qxo {w j k : Nat} (hk : 2 ^ k ≤ w) (hj : j < k) : w / 2 ^ j ≠ w / 2 ^ k := fun e => by
  have h1 := Qsf hk
  have h2 := Qsf (w := w) (k := j) (Nat.le_trans (Nat.pow_le_pow_right (by omega) (by omega)) hk)
  have h3 := Qmy w k hk
  rw [e] at h2; omega
theorem Quf {w k : Nat} (hw : w < 9223372036854775808) (hk : 2 ^ k ≤ w) (hk2 : k ≤ 64) : ∀ (m j f : Nat), j + m = k → m < f → Qr (Az ((w / 2 ^ k : Nat) : Int)) f (((w / 2 ^ j : Nat) : Int), (Vv w j).map Int.ofNat) = some (((w / 2 ^ k : Nat) : Int) :: (Vv w k).map Int.ofNat)
  | m, j, 0, _, h => by omega
  | 0, j, f + 1, hj, _ => by
    obtain rfl : j = k := by omega
    rw [Zt]; simp only [Az]
    rw [if_neg (by simp), Vd (by simp [Qbp]; omega), bind_some]; rfl
  | m + 1, j, f + 1, hj, hf => by
    rw [Zt]; simp only [Az]
    have hne := Qxo hk (show j < k by omega)
    have Jt : w / 2 ^ j < 9223372036854775808 := Nat.lt_of_le_of_lt (Nat.div_le_self _ _) hw
    rw [if_pos (by omega), Vd (by simp [Qbp]; omega), bind_some, Qng _ Jt, bind_some, Nat.div_div_eq_div_mul, ← Nat.pow_succ]
    exact Quf hw hk hk2 m (j + 1) f (by omega) (by omega)
theorem Que {w k : Nat} (hw : w < 9223372036854775808) (hk : 2 ^ k ≤ w) (hk2 : k ≤ 64) : Qca ((w / 2 ^ k : Nat) : Int) (w : Int) = some (((w / 2 ^ k : Nat) : Int) :: (Vv w k).map Int.ofNat) := by
  have := Quf hw hk hk2 k 0 Xb (by omega) (Ki (by omega))
  rw [Nat.pow_zero, Nat.div_one] at this
  exact this
end Go.Sx

end
section
set_option linter.unusedVariables false
set_option linter.unusedSimpArgs false
namespace Go.Sx
open Go
def zG : Ko := Ko.mk 0#64 0#64 0#64
def Yp (s : Qs) : Bool := decide (1#8 ≤ s.Kind ∧ s.Kind ≤ 3#8 ∧ 0 ≤ s.Depth ∧ s.Depth ≤ 6 ∧ s.Degree = 0 ∧ s.Group = zG)
theorem Mr (s : Qs) : Ib s = some (Yp s) := by
  unfold Ib Yp zG
  by_cases h1 : 1#8 ≤ s.Kind
  · by_cases h2 : s.Kind ≤ 3#8
    · by_cases h3 : 0 ≤ s.Depth
      · by_cases h4 : s.Depth ≤ 6
        · by_cases h5 : s.Degree = 0
          · simp [h1, h2, h3, h4, h5]
          · simp [h1, h2, h3, h4, h5]
        · simp [h1, h2, h3, h4]
      · simp [h1, h2, h3]
    · simp [h1, h2]
  · simp [h1]
theorem Qk6 {s : Qs} (h : Yp s = true) : ∃ d : Nat, s.Depth = (d : Int) ∧ d ≤ 6 := by
  unfold Yp at h
  have := of_decide_eq_true h
  exact ⟨s.Depth.toNat, by omega, by omega⟩
theorem Qoh (s : Qs) (n : Nat) (a : Int) : Qr (Uz s) (n + 1) a = if Qi (a * a) < s.Depth then Qr (Uz s) n (Qi (a + 1)) else some (Xv.mk s.Kind s.Depth a, true) := rfl
theorem Xhe (s : Qs) {d : Nat} (hd : s.Depth = (d : Int)) (h : d ≤ 6) : Qr (Uz s) Xb 1 = some (Xv.mk s.Kind (d : Int) (Pd d : Int), true) := by
  have e1 : Qi (1 * 1) = 1 := by decide
  have e2 : Qi (1 + 1) = 2 := by decide
  have e3 : Qi (2 * 2) = 4 := by decide
  have e4 : Qi (2 + 1) = 3 := by decide
  have e5 : Qi (3 * 3) = 9 := by decide
  rw [show Xb = 18446744073709551613 + 3 from rfl, Qoh, e1, e2, hd]
  unfold Pd
  by_cases h1 : d ≤ 1
  · rw [if_neg (by omega), if_pos h1, ← hd]; rfl
  · rw [if_pos (by omega), if_neg h1, show 18446744073709551613 + 2 = 18446744073709551614 + 1 from rfl, Qoh, e3, e4, hd]
    by_cases h2 : d ≤ 4
    · rw [if_neg (by omega), if_pos h2, ← hd]; rfl
    · rw [if_pos (by omega), if_neg h2, show 18446744073709551614 = 18446744073709551613 + 1 from rfl, Qoh, e5, hd, if_neg (by omega), ← hd]; rfl
def Wv (s : Qs) : Xv := Xv.mk s.Kind s.Depth (Pd s.Depth.toNat : Int)
theorem Qog (s : Qs) : Qad s = some (if Yp s then (Wv s, true) else (Xv.mk 0#8 0 0, false)) := by
  unfold Qad Bq
  by_cases hv : Yp s = true
  · rw [if_pos hv]
    obtain ⟨d, hd, h6⟩ := Qk6 hv
    unfold Yp at hv
    obtain ⟨h1, h2, h3, h4, h5, h7⟩ := of_decide_eq_true hv
    have hs : s = Qs.mk s.Kind s.Depth 0 (Ko.mk 0#64 0#64 0#64) := by cases s; simp only at *; rw [h5, h7]; rfl
    rw [if_neg (by rw [BitVec.not_lt]; exact h1), if_neg (by rw [BitVec.not_lt]; exact h2), if_neg (by omega), if_neg (by omega), decide_eq_false (by simpa using hs)]
    simp only [cond_false]
    rw [Xhe s hd h6]
    unfold Wv
    rw [hd, Int.toNat_natCast]
  · rw [if_neg hv]
    have hn : ¬ (1#8 ≤ s.Kind ∧ s.Kind ≤ 3#8 ∧ 0 ≤ s.Depth ∧ s.Depth ≤ 6 ∧ s.Degree = 0 ∧ s.Group = zG) := fun h => hv (by unfold Yp; exact decide_eq_true h)
    by_cases h1 : s.Kind < 1#8
    · rw [if_pos h1]; rfl
    · rw [if_neg h1]
      by_cases h2 : 3#8 < s.Kind
      · rw [if_pos h2]; rfl
      · rw [if_neg h2]
        by_cases h3 : s.Depth < 0
        · rw [if_pos h3]; rfl
        · rw [if_neg h3]
          by_cases h4 : (6 : Int) < s.Depth
          · rw [if_pos h4]; rfl
          · rw [if_neg h4, decide_eq_true (p := s ≠ _)]
            · rfl
            · intro hs
              refine hn ⟨BitVec.not_lt.1 h1, BitVec.not_lt.1 h2, by omega, by omega, ?_, ?_⟩
              · rw [hs]
              · rw [hs]; rfl
def Fm (d : Nat) (l : List Nat) : Nat := (l.find? (Ll d)).getD 0
theorem Qrm {k : BitVec 8} {d : Nat} : ∀ (l : List Nat), (∀ n ∈ l, 1 ≤ n ∧ n < 9223372036854775808) →
    Vf (Qab ⟨k, (d : Int), (Pd d : Int)⟩) Qdu (l.map Int.ofNat) 0 = some ((Fm d l : Nat) : Int)
  | [], _ => rfl
  | a :: l, h => by
    rw [List.map_cons, Cf]
    simp only [Qab]
    have ha := h a (by simp)
    rw [show (Int.ofNat a) = (a : Int) from rfl, Quw ha.1 ha.2, bind_some]
    unfold Fm
    rw [List.find?_cons]
    cases hs : Ll d a with
    | true => rfl
    | false => exact Qrm l (fun n hn => h n (by simp [hn]))
theorem Qp7 {d : Nat} (hd : d ≤ 6) (v m : Nat) (l : List Nat) (hl : l.length ≤ 64) (hb : ∀ n ∈ l, n < 9223372036854775808) : ∀ (r : List Nat) (j f : Nat), j + r.length = l.length → l.drop j = r → r.length < f →
    Qr (Ie (d : Int) ((v : Int) :: (l ++ [m]).map Int.ofNat)) f ((j + 1 : Nat) : Int) = some ((Fm d r : Nat) : Int)
  | r, j, 0, _, _, h => by omega
  | [], j, f + 1, hj, hr, _ => by
    rw [Zt]; simp only [Ie]
    rw [Xu (by simp; omega) (by simp; omega), if_neg (by simp; simp at hj; omega)]; rfl
  | a :: r, j, f + 1, hj, hr, hf => by
    rw [Zt]; simp only [Ie]
    have hjl : j < l.length := by simp at hj; omega
    have ha : l[j] = a := by
      have := List.drop_eq_getElem_cons hjl; rw [hr] at this; exact (List.cons.inj this).1.symm
    have hr' : l.drop (j + 1) = r := by
      have := List.drop_eq_getElem_cons hjl; rw [hr] at this; exact (List.cons.inj this).2.symm
    have hg : Xt ((v : Int) :: (l ++ [m]).map Int.ofNat) ((j + 1 : Nat) : Int) = some (a : Int) := by
      rw [Kd (by simp; omega)]
      simp only [List.map_append, List.getElem_cons_succ, List.getElem_append_left (show j < (l.map Int.ofNat).length by simpa using hjl), List.getElem_map, ha]; rfl
    rw [Xu (by simp; omega) (by simp; omega), if_pos (by simp; omega), hg, bind_some, Quh hd (hb a (by rw [← ha]; exact List.getElem_mem hjl)), bind_some]
    unfold Fm
    rw [List.find?_cons]
    cases hs : Ll d a with
    | true => rfl
    | false =>
      simp only [cond_false]
      rw [Xu (by simp at hj; omega) (by simp at hj; omega), show ((j + 1 : Nat) : Int) + 1 = ((j + 1 + 1 : Nat) : Int) from by omega]
      exact Qp7 hd v m l hl hb r (j + 1) f (by simp at hj ⊢; omega) hr' (by simp at hf; omega)
theorem Qp6 {m n : Nat} (hm : 1 ≤ m) (hn : 1 ≤ n) (h : Yv m n = true) (hne : m ≠ n) : ∃ k, Nat.log2 m - Nat.log2 n = k + 1 ∧ n = m / 2 ^ (k + 1) ∧ 2 ^ (k + 1) ≤ m := by
  unfold Yv at h
  obtain ⟨h1, h2⟩ := of_decide_eq_true h
  have h3 : Nat.log2 m - Nat.log2 n ≠ 0 := fun e => by rw [e, Nat.pow_zero, Nat.div_one] at h2; exact hne h2
  refine ⟨Nat.log2 m - Nat.log2 n - 1, by omega, ?_, ?_⟩
  · rw [show Nat.log2 m - Nat.log2 n - 1 + 1 = Nat.log2 m - Nat.log2 n from by omega]; exact h2.symm
  · rw [show Nat.log2 m - Nat.log2 n - 1 + 1 = Nat.log2 m - Nat.log2 n from by omega]
    exact Nat.le_trans (Nat.pow_le_pow_right (by omega) (by omega)) (Nat.log2_self_le (by omega))
theorem Qrs {m k : Nat} (h : 2 ^ (k + 1) ≤ m) : 2 ^ k ≤ m / 2 := by rw [Nat.le_div_iff_mul_le (by omega)]; rw [Nat.pow_succ] at h; omega
theorem Qxb {kd : BitVec 8} {d m k : Nat} (hm : m < 128) (hk : 2 ^ (k + 1) ≤ m) (hk2 : k ≤ 60) : Qae ⟨kd, (d : Int), (Pd d : Int)⟩ ((m / 2 ^ (k + 1) : Nat) : Int) (m : Int) = some ((Fm d (Vv (m / 2) k) : Nat) : Int) := by
  unfold Qae Ux Qhq
  rw [show Jq (un 1#64) = some 1 from by decide, bind_some, bind_some, Qoc _ _ (by omega), Nat.pow_one]
  simp only
  have e : m / 2 ^ (k + 1) = m / 2 / 2 ^ k := by rw [Nat.div_div_eq_div_mul, Nat.pow_succ, Nat.mul_comm 2]
  have hp := Qrs hk
  rw [e, Qt8 (by omega) hp (by omega), bind_some, Qrm _ (fun n hn => by have := Qt7 hp hn; omega), bind_some]
theorem Qw5 {d m k : Nat} (hd : d ≤ 6) (hm : m < 128) (hk : 2 ^ (k + 1) ≤ m) (hk2 : k ≤ 60) : Qcc (d : Int) ((m / 2 ^ (k + 1) : Nat) : Int) (m : Int) = some ((Fm d (Vv (m / 2) k) : Nat) : Int) := by
  have hp := Qrs hk
  unfold Qcc
  rw [Que (by omega) hk (by omega), bind_some, Xdr]
  have := Qp7 hd (m / 2 ^ (k + 1)) m (Vv (m / 2) k) (by rw [Qbp]; omega) (fun n hn => by have := Qt7 hp hn; omega) (Vv (m / 2) k) 0 Xb (by omega) rfl (Ki (by rw [Qbp]; omega))
  exact this
theorem Qmu {m k : Nat} (h : 2 ^ k ≤ m) (hm : m < 128) : k ≤ 6 := by
  have h1 := (Nat.le_log2 (n := m) (by have := Nat.two_pow_pos k; omega)).2 h
  have h2 : Nat.log2 m < 7 := (Nat.log2_lt (by have := Nat.two_pow_pos k; omega)).2 (by omega)
  omega
def Lp (s : Qs) (x : Xo) : Prop := Sb s.Depth.toNat x.Node = true ∧ (s.Kind = 1#8 ∨ x.Minus = 0 ∨ (∃ m n k : Nat, x.Minus = (m : Int) ∧ x.Node = (n : Int) ∧ n = m / 2 ^ (k + 1) ∧ 2 ^ (k + 1) ≤ m ∧ m < 128 ∧ k ≤ 6 ∧ 1 ≤ n))
theorem Xgz (s : Qs) (hv : Yp s = true) (x : Xo) : ∃ b, Ed (Wv s) x = some b ∧ Qc6 s x = some b ∧ (b = true → Lp s x) := by
  obtain ⟨d, hd, h6⟩ := Qk6 hv
  have ht : Wv s = ⟨s.Kind, (d : Int), (Pd d : Int)⟩ := by unfold Wv; rw [hd, Int.toNat_natCast]
  rw [ht]
  unfold Ed Qc6
  rw [hd, Qim h6, Qsr h6, bind_some, bind_some]
  have hno : false = true → Lp s x := fun h => by cases h
  cases h1 : Sb d x.Node with
  | false => exact ⟨false, rfl, rfl, hno⟩
  | true =>
    have hsd : Sb s.Depth.toNat x.Node = true := by rw [hd, Int.toNat_natCast]; exact h1
    simp only [Bool.not_true, cond_false]
    obtain ⟨n, hn, hn1, hn2⟩ := Qrt h6 h1
    by_cases hk : s.Kind = 1#8
    · rw [if_pos hk, if_pos hk]
      unfold Qai
      rw [cond_true]
      by_cases hm : x.Minus = 0
      · rw [if_pos hm, if_pos hk]; exact ⟨true, rfl, by rw [decide_eq_true hm], fun _ => ⟨hsd, .inl hk⟩⟩
      · rw [if_neg hm]; exact ⟨false, rfl, by rw [decide_eq_false hm], hno⟩
    · rw [if_neg hk, if_neg hk]
      unfold Qai
      by_cases hm : x.Minus = 0
      · rw [decide_eq_true hm, cond_true, if_pos hm, if_neg hk, if_pos hm]
        exact ⟨_, rfl, rfl, fun _ => ⟨hsd, .inr (.inl hm)⟩⟩
      · rw [decide_eq_false hm, cond_false, if_neg hm, Qim h6, Qsr h6, bind_some, bind_some]
        have hf : ∃ b, Ee ⟨s.Kind, (d : Int), (Pd d : Int)⟩ x true = some b ∧ Ax s x true = some b ∧ (b = true → Lp s x) := ⟨false, rfl, rfl, hno⟩
        cases h2 : Sb d x.Minus with
        | false => exact hf
        | true =>
          rw [Bool.not_true, cond_false, cond_false]
          obtain ⟨m, hm1, hm2, hm3⟩ := Qrt h6 h2
          by_cases he : x.Minus = x.Node
          · rw [if_pos he, if_pos he]; exact hf
          · have e1 : Gu x.Minus x.Node = some (Yv m n) := by rw [hm1, hn]; exact Qkp hm2 hn1 (by omega) (by omega)
            have e2 : Ro x.Minus x.Node = some (Yv m n) := by rw [hm1, hn]; exact Qni hm2 hn1 (by omega)
            rw [if_neg he, if_neg he, e1, e2, bind_some, bind_some]
            cases h3 : Yv m n with
            | false => exact hf
            | true =>
              obtain ⟨k, hk0, hk1, hk2⟩ := Qp6 hm2 hn1 h3 (by omega)
              have hkl := Qmu hk2 hm3
              have hok : ∀ b : Bool, b = true → Lp s x := fun b _ => ⟨hsd, .inr (.inr ⟨m, n, k, hm1, hn, hk1, hk2, hm3, by omega, hn1⟩)⟩
              unfold Ee Ax
              rw [Bool.not_true, cond_false, cond_false]
              by_cases hk3 : s.Kind = 2#8
              · rw [if_pos hk3, if_pos hk3]; exact ⟨true, rfl, rfl, hok true⟩
              · have e3 : Ec ⟨s.Kind, (d : Int), (Pd d : Int)⟩ x.Node = some (Ll d n) := by rw [hn]; exact Quw hn1 (by omega)
                have e4 : Ia s.Depth x.Node = some (Ll d n) := by rw [hn, hd]; exact Quh h6 (by omega)
                rw [if_neg hk3, if_neg hk3, e3, e4, bind_some, bind_some]
                cases hs : Ll d n with
                | true => exact ⟨true, rfl, rfl, hok true⟩
                | false =>
                  rw [cond_false, cond_false]
                  have e5 : Qae ⟨s.Kind, (d : Int), (Pd d : Int)⟩ x.Node x.Minus = some ((Fm d (Vv (m / 2) k) : Nat) : Int) := by rw [hn, hm1, hk1]; exact Qxb hm3 hk2 (by omega)
                  have e6 : Qcc s.Depth x.Node x.Minus = some ((Fm d (Vv (m / 2) k) : Nat) : Int) := by rw [hn, hm1, hd, hk1]; exact Qw5 h6 hm3 hk2 (by omega)
                  rw [e5, e6, bind_some]
                  exact ⟨_, rfl, rfl, hok _⟩
end Go.Sx

end
section
set_option linter.unusedVariables false
set_option linter.unusedSimpArgs false
namespace Go.Sx
open Go
theorem Qro {α σ τ R : Type} (l : List α) (F : (τ → Option R) → τ → Option R) (pk : Nat → σ → τ) (B : α → (σ → Option R) → σ → Option R) (D : σ → Option R)
    (h1 : ∀ rec (j : Nat) (hj : j < l.length) s, F rec (pk j s) = B l[j] (fun s' => rec (pk (j + 1) s')) s) (h2 : ∀ rec s, F rec (pk l.length s) = D s) :
    ∀ (m j f : Nat) (s : σ), j + m = l.length → m < f → Qr F f (pk j s) = Vf B D (l.drop j) s
  | m, j, 0, s, _, h => by omega
  | 0, j, f + 1, s, hj, _ => by
    have : j = l.length := by omega
    subst this
    rw [Zt, h2, List.drop_length]; rfl
  | m + 1, j, f + 1, s, hj, hf => by
    have hjl : j < l.length := by omega
    rw [Zt, h1 _ j hjl, List.drop_eq_getElem_cons hjl, Cf]
    have : (fun s' => Qr F f (pk (j + 1) s')) = Vf B D (l.drop (j + 1)) := funext fun s' => Qro l F pk B D h1 h2 m (j + 1) f s' (by omega) (by omega)
    rw [this]
theorem Qrp {α σ τ R : Type} (l : List α) (F : (τ → Option R) → τ → Option R) (pk : Nat → σ → τ) (B : α → (σ → Option R) → σ → Option R) (D : σ → Option R)
    (h1 : ∀ rec (j : Nat) (hj : j < l.length) s, F rec (pk j s) = B l[j] (fun s' => rec (pk (j + 1) s')) s) (h2 : ∀ rec s, F rec (pk l.length s) = D s) {f : Nat} (hf : l.length < f) (s : σ) : Qr F f (pk 0 s) = Vf B D l s := by
  have := Qro l F pk B D h1 h2 l.length 0 f s (by omega) hf
  rwa [List.drop_zero] at this
theorem Qih {σ τ R : Type} (n : Nat) (F : (τ → Option R) → τ → Option R) (pk : Nat → σ → τ) (B : Nat → (σ → Option R) → σ → Option R) (D : σ → Option R)
    (h1 : ∀ rec (j : Nat) (hj : j < n) s, F rec (pk j s) = B j (fun s' => rec (pk (j + 1) s')) s) (h2 : ∀ rec s, F rec (pk n s) = D s) {f : Nat} (hf : n < f) (s : σ) : Qr F f (pk 0 s) = Vf B D (List.range n) s :=
  Qrp (List.range n) F pk B D (fun rec j hj s => by rw [List.length_range] at hj; rw [h1 rec j hj, List.getElem_range]) (fun rec s => by rw [List.length_range]; exact h2 rec s) (by rw [List.length_range]; exact hf) s
theorem Xbo {α β σ R : Type} (F : β → (σ → Option R) → σ → Option R) (d : σ → Option R) (g : α → β) (l : List α) : Vf F d (l.map g) = Vf (fun a => F (g a)) d l := by unfold Vf; rw [List.foldr_map]
theorem Qio {α β R : Type} (b n : Nat) (p : α → Bool) (f : α → β) (F : α → (List β → Option R) → List β → Option R) (d : List β → Option R) : ∀ (l : List α) (s : List β), (∀ a ∈ l, ∀ nx s, F a nx s = bif p a then Option.bind (Ks b s [f a]) nx else nx s) → (s.length + l.length) * b ≤ 140737488355328 → Vf F d l s = d (s ++ (l.filter p).map f)
  | [], s, _, _ => by simp [Xbp]
  | a :: l, s, h, hb => by
    have hlen : (s.length + (a :: l).length) * b = (s.length + 1 + l.length) * b := by congr 1; simp; omega
    rw [Cf, h a (by simp), List.filter_cons]
    cases hp : p a with
    | true =>
      have h2 : (s.length + 1) * b ≤ (s.length + 1 + l.length) * b := Nat.mul_le_mul_right _ (by omega)
      rw [cond_true, Vd (by simp; omega), bind_some, Qio b n p f F d l (s ++ [f a]) (fun x hx => h x (by simp [hx])) (by simp; omega)]
      simp
    | false =>
      have h2 : (s.length + l.length) * b ≤ (s.length + 1 + l.length) * b := Nat.mul_le_mul_right _ (by omega)
      rw [cond_false, Qio b n p f F d l s (fun x hx => h x (by simp [hx])) (by omega)]
      simp
theorem Xig {α : Type} (x : α) (l : List α) : yl x (some l) = some (x :: l) := rfl
theorem Wp {n : Nat} (h : n < 9223372036854775807) : Qi ((n : Int) + 1) = ((n + 1 : Nat) : Int) := by rw [Xu (by omega) (by omega)]; omega
end Go.Sx

end
section
set_option linter.unusedVariables false
set_option linter.unusedSimpArgs false
namespace Go.Sx
open Go
theorem Xaa (s : Qs) : Ut s ([] : List Xo) = some (if Yp s then (Wv s, 0) else (Xv.mk 0#8 0 0, 30)) := by
  unfold Ut
  rw [Qog, bind_some]
  cases hv : Yp s with
  | false => rfl
  | true => rfl
end Go.Sx

end
section
set_option linter.unusedVariables false
set_option linter.unusedSimpArgs false
set_option maxRecDepth 100000
namespace Go.Sx
open Go
def Xgy (k : BitVec 8) (d v w : Nat) : Bool := decide (k = 2#8) || Ll d v || decide (Fm d (Vv (w / 2) (Nat.log2 w - Nat.log2 v - 1)) = 0)
def Qs9 (k : BitVec 8) (d leaf : Nat) : Nat → List (Nat × Nat)
  | 0 => []
  | j + 1 => ((Vv leaf (j + 1)).filter fun p => Xgy k d (leaf / 2 ^ (j + 1)) (p ^^^ 1)).map (fun p => (leaf / 2 ^ (j + 1), p ^^^ 1)) ++ Qs9 k d leaf j
def Hw (k : BitVec 8) (d u : Nat) : List (Nat × Nat) := (1, 0) :: if k = 1#8 then (Vv (2 ^ d + u) d).map (fun p => (p, 0)) else Qs9 k d (2 ^ d + u) d
def Qir (k : BitVec 8) (d u : Nat) : List (Int × Int) := (Hw k d u).map fun x => ((x.1 : Int), (x.2 : Int))
def Fz (k : BitVec 8) (d u : Nat) : List Xo := (Hw k d u).map fun x => Xo.mk (x.1 : Int) (x.2 : Int)
def Ab (k : BitVec 8) (d u : Nat) : Bool :=
  decide (Qdx ⟨k, (d : Int), (Pd d : Int)⟩ (u : Int) = some (Qir k d u)) && decide (Qfv ⟨k, (d : Int), 0, zG⟩ (u : Int) = some (Fz k d u)) && decide ((Hw k d u).length ≤ 100) &&
    (Hw k d u).all fun x => decide (1 ≤ x.1 ∧ x.1 < 128 ∧ x.2 < 128) && (decide (x.2 = 0) || (Yv x.2 x.1 && !decide (x.2 = x.1)))
theorem Xc6 : ∀ d : Fin 7, (List.range (2 ^ d.1)).all (fun u => Ab 1#8 d.1 u) = true := by decide +kernel
theorem Xc7 : ∀ d : Fin 6, (List.range (2 ^ d.1)).all (fun u => Ab 2#8 d.1 u) = true := by decide +kernel
theorem Xc8 : (List.range 64).all (fun u => Ab 2#8 6 u) = true := by decide +kernel
theorem Xc9 : ∀ d : Fin 6, (List.range (2 ^ d.1)).all (fun u => Ab 3#8 d.1 u) = true := by decide +kernel
theorem Xca : (List.range 64).all (fun u => Ab 3#8 6 u) = true := by decide +kernel
theorem Xbv {k : BitVec 8} (h1 : 1#8 ≤ k) (h3 : k ≤ 3#8) : k = 1#8 ∨ k = 2#8 ∨ k = 3#8 := by
  have a : 1 ≤ k.toNat := h1
  have b : k.toNat ≤ 3 := h3
  rcases (show k.toNat = 1 ∨ k.toNat = 2 ∨ k.toNat = 3 by omega) with h | h | h
  · exact .inl (BitVec.eq_of_toNat_eq h)
  · exact .inr (.inl (BitVec.eq_of_toNat_eq h))
  · exact .inr (.inr (BitVec.eq_of_toNat_eq h))
theorem Xcb {k : BitVec 8} {d u : Nat} (h1 : 1#8 ≤ k) (h3 : k ≤ 3#8) (hd : d ≤ 6) (hu : u < 2 ^ d) : Ab k d u = true := by
  have key : ∀ {n : Nat} {f : Nat → Bool}, (List.range n).all f = true → u < n → f u = true := fun h hu => List.all_eq_true.1 h u (List.mem_range.2 hu)
  rcases Xbv h1 h3 with rfl | rfl | rfl
  · exact key (Xc6 ⟨d, by omega⟩) hu
  · rcases Nat.lt_or_ge d 6 with h | h
    · exact key (Xc7 ⟨d, h⟩) hu
    · obtain rfl : d = 6 := by omega
      exact key Xc8 hu
  · rcases Nat.lt_or_ge d 6 with h | h
    · exact key (Xc9 ⟨d, h⟩) hu
    · obtain rfl : d = 6 := by omega
      exact key Xca hu
theorem Xhu {s : Qs} (h : Yp s = true) : 1#8 ≤ s.Kind ∧ s.Kind ≤ 3#8 := by
  unfold Yp at h
  have := of_decide_eq_true h
  exact ⟨this.1, this.2.1⟩
theorem Xhv {s : Qs} {d : Nat} (h : Yp s = true) (hd : s.Depth = (d : Int)) : s = ⟨s.Kind, (d : Int), 0, zG⟩ := by
  unfold Yp at h
  have := of_decide_eq_true h
  cases s; simp only at *; rw [hd, this.2.2.2.2.1, this.2.2.2.2.2]
theorem Xcc {s : Qs} {d u : Nat} (hv : Yp s = true) (hd : s.Depth = (d : Int)) (h6 : d ≤ 6) (hu : u < 2 ^ d) :
    Qdx ⟨s.Kind, (d : Int), (Pd d : Int)⟩ (u : Int) = some (Qir s.Kind d u) ∧ Qfv s (u : Int) = some (Fz s.Kind d u) ∧ (Hw s.Kind d u).length ≤ 100 ∧
    ∀ x ∈ Hw s.Kind d u, (1 ≤ x.1 ∧ x.1 < 128 ∧ x.2 < 128) ∧ (x.2 = 0 ∨ (Yv x.2 x.1 = true ∧ x.2 ≠ x.1)) := by
  obtain ⟨k1, k3⟩ := Xhu hv
  have h := Xcb k1 k3 h6 hu
  unfold Ab at h
  simp only [Bool.and_eq_true, decide_eq_true_eq, List.all_eq_true, Bool.or_eq_true, Bool.not_eq_true', decide_eq_false_iff_not] at h
  refine ⟨h.1.1.1, ?_, h.1.2, h.2⟩
  rw [Xhv hv hd]; exact h.1.1.2
end Go.Sx

end
section
set_option linter.unusedVariables false
set_option linter.unusedSimpArgs false
namespace Go.Sx
open Go
def Sn (k : W2) (n : Nat) : W2 := if n % 2 = 1 then Jk k (Xf 32#8) 0#64 else Jk k (Xf 31#8) 0#64
theorem Qlc : ∀ (l : List Nat) (k : W2), Vf Qaa Qdr (l.map Int.ofNat) k = some (l.foldl Sn k)
  | [], k => rfl
  | a :: l, k => by
    rw [List.map_cons, Cf]
    simp only [Qaa, Qds]
    rw [show (Int.ofNat a) = (a : Int) from rfl, show (2 : Int) = ((2 : Nat) : Int) from rfl, Qjl a 2 (by omega), bind_some, List.foldl_cons]
    unfold Sn
    by_cases h : a % 2 = 1
    · rw [if_pos (by omega), if_pos h]; exact Qlc l _
    · rw [if_neg (by omega), if_neg h]; exact Qlc l _
theorem Qpy {w k : Nat} (key : W2) (hw : w < 9223372036854775808) (hk : 2 ^ k ≤ w) (hk2 : k ≤ 64) : Ff key ((w / 2 ^ k : Nat) : Int) (w : Int) = some ((Vv w k).foldl Sn key) := by
  unfold Ff Ux
  rw [bind_some]
  simp only
  rw [Qt8 hw hk hk2, bind_some, Qlc]
theorem Xgt (k : W2) (n : Nat) : Qg3 k (n : Int) = some (Sn k n) := by
  unfold Qg3 Sn
  rw [show (2 : Int) = ((2 : Nat) : Int) from rfl, Qjl n 2 (by omega), bind_some]
  by_cases h : n % 2 = 1
  · rw [if_neg (by omega), if_pos h]
  · rw [if_pos (by omega), if_neg h]
theorem Qq0 (v : Int) (l : List Nat) (hl : l.length ≤ 1000) : ∀ (r : List Nat) (j f : Nat) (k : W2), j + r.length = l.length → l.drop j = r → r.length < f → Qr (Ih (v :: l.map Int.ofNat)) f (((j + 1 : Nat) : Int), k) = some (r.foldl Sn k)
  | r, j, 0, k, _, _, h => by omega
  | [], j, f + 1, k, hj, hr, _ => by
    rw [Zt]; simp only [Ih]
    rw [if_neg (by simp at hj ⊢; omega)]; rfl
  | a :: r, j, f + 1, k, hj, hr, hf => by
    rw [Zt]; simp only [Ih]
    have hjl : j < l.length := by simp at hj; omega
    have ha : l[j] = a := by
      have := List.drop_eq_getElem_cons hjl; rw [hr] at this; exact (List.cons.inj this).1.symm
    have hr' : l.drop (j + 1) = r := by
      have := List.drop_eq_getElem_cons hjl; rw [hr] at this; exact (List.cons.inj this).2.symm
    have hg : Xt (v :: l.map Int.ofNat) ((j + 1 : Nat) : Int) = some (a : Int) := by
      rw [Kd (by simp; omega)]
      simp only [List.getElem_cons_succ, List.getElem_map, ha]; rfl
    rw [if_pos (by simp; omega), hg, bind_some, Xgt, bind_some, Xu (by simp at hj; omega) (by simp at hj; omega), show ((j + 1 : Nat) : Int) + 1 = ((j + 1 + 1 : Nat) : Int) from by omega, List.foldl_cons]
    exact Qq0 v l hl r (j + 1) f _ (by simp at hj ⊢; omega) hr' (by simp at hf; omega)
theorem Qld {w k : Nat} (key : W2) (hw : w < 9223372036854775808) (hk : 2 ^ k ≤ w) (hk2 : k ≤ 64) : Ig key ((w / 2 ^ k : Nat) : Int) (w : Int) = some ((Vv w k).foldl Sn key) := by
  unfold Ig
  rw [Que hw hk hk2, bind_some]
  exact Qq0 _ (Vv w k) (by rw [Qbp]; omega) (Vv w k) 0 Xb key (by omega) rfl (Ki (by rw [Qbp]; omega))
end Go.Sx

end
section
set_option linter.unusedVariables false
set_option linter.unusedSimpArgs false
namespace Go.Sx
open Go
theorem Qrl {α : Type} (l : List α) : (l.filter fun _ => true) = l := List.filter_eq_self.2 (by simp)
theorem Qii {τ R : Type} (F : (τ → Option R) → τ → Option R) (I : Nat → τ → Prop) (n : Nat) (r : Option R) (hs : ∀ j s, j < n → I j s → ∃ s', I (j + 1) s' ∧ ∀ rec, F rec s = rec s') (he : ∀ s, I n s → ∀ rec, F rec s = r) :
    ∀ (m j f : Nat) (s : τ), j + m = n → m < f → I j s → Qr F f s = r
  | m, j, 0, s, _, h, _ => by omega
  | 0, j, f + 1, s, hj, _, hi => by
    have : j = n := by omega
    subst this
    rw [Zt, he s hi]
  | m + 1, j, f + 1, s, hj, hf, hi => by
    obtain ⟨s', h1, h2⟩ := hs j s (by omega) hi
    rw [Zt, h2]
    exact Qii F I n r hs he m (j + 1) f s' (by omega) (by omega) h1
end Go.Sx

end
section
set_option linter.unusedVariables false
set_option linter.unusedSimpArgs false
namespace Go.Sx
open Go
def Fp (root : W2) (k : BitVec 8) (x : Nat × Nat) : W2 :=
  if x.2 = 0 then (if k = 1#8 then Jk root (Xf 30#8) (wd (x.1 : Int)) else Jk root (Xf 34#8) 0#64) else (Vv x.2 (Nat.log2 x.2 - Nat.log2 x.1)).foldl Sn (Jk root (Xf 30#8) (wd (x.1 : Int)))
def lbl (root : W2) (k : BitVec 8) (x : Nat × Nat) : Xn := Xn.mk (x.1 : Int) (x.2 : Int) (Fp root k x)
def Qcv (root : W2) (k : BitVec 8) (d u : Nat) : List Xn := (Hw k d u).map (lbl root k)
def Qd8 (x : Nat × Nat) : Prop := (1 ≤ x.1 ∧ x.1 < 128 ∧ x.2 < 128) ∧ (x.2 = 0 ∨ (Yv x.2 x.1 = true ∧ x.2 ≠ x.1))
theorem Qmt {x : Nat × Nat} (h : Qd8 x) (h0 : x.2 ≠ 0) : ∃ k, Nat.log2 x.2 - Nat.log2 x.1 = k + 1 ∧ x.1 = x.2 / 2 ^ (k + 1) ∧ 2 ^ (k + 1) ≤ x.2 ∧ k ≤ 6 := by
  rcases h.2 with h2 | ⟨h2, h3⟩
  · exact absurd h2 h0
  · obtain ⟨k, e1, e2, e3⟩ := Qp6 (by omega) h.1.1 h2 h3
    have := Qmu e3 h.1.2.2
    exact ⟨k, e1, e2, e3, by omega⟩
theorem Qne {root : W2} {s : Qs} {d u : Nat} (ui : Int) (h : ∀ x ∈ Hw s.Kind d u, Qd8 x) (hl : (Hw s.Kind d u).length ≤ 100) :
    Vf (Qa9 root (Wv s, 0)) (Qa8 ui) (Qir s.Kind d u) [] = some (Qq.mk ui (Qcv root s.Kind d u) (Qu.mk 0#64 0#64), 0) := by
  unfold Qir
  rw [Xbo]
  refine (Qio 32 0 (fun _ => true) (lbl root s.Kind) _ _ _ _ (fun a ha nx l => ?_) (by simp; omega)).trans (by simp [Qa8, Qcv, Qrl])
  have hok := h a ha
  simp only [Qa9, Qdq, cond_true]
  by_cases h0 : a.2 = 0
  · rw [if_pos (by omega)]
    have : Qdw (Wv s) root (Xo.mk (a.1 : Int) 0) = some (Fp root s.Kind a) := by
      unfold Qdw Fp Uu
      rw [if_pos h0, show (Wv s).kind = s.Kind from rfl]
      by_cases hk : s.Kind = 1#8
      · rw [if_pos hk, if_pos hk]; rfl
      · rw [if_neg hk, if_neg hk, if_pos rfl]
    rw [this, bind_some]; rfl
  · rw [if_neg (by omega)]
    obtain ⟨k, e1, e2, e3, e4⟩ := Qmt hok h0
    unfold Uu
    rw [bind_some]
    have : Ff (Jk root (Xf 30#8) (wd (a.1 : Int))) (a.1 : Int) (a.2 : Int) = some (Fp root s.Kind a) := by
      have := Qpy (Jk root (Xf 30#8) (wd (a.1 : Int))) (w := a.2) (k := k + 1) (by have := hok.1.2.2; omega) e3 (by omega)
      rw [← e2] at this
      rw [this, Fp, if_neg h0, e1]
    rw [this, bind_some]; rfl
theorem Xbs {root : W2} {s : Qs} {x : Nat × Nat} (h : Qd8 x) (hk1 : s.Kind = 1#8 → x.2 = 0) : ∃ k, Qfu root s (Xo.mk (x.1 : Int) (x.2 : Int)) = some k ∧ (x.2 = 0 → k = Fp root s.Kind x) := by
  unfold Qfu Fp
  by_cases hk : s.Kind = 1#8
  · rw [if_pos hk]; exact ⟨_, rfl, fun h0 => by rw [if_pos h0, if_pos hk]⟩
  · rw [if_neg hk]
    by_cases h0 : x.2 = 0
    · rw [if_pos (by simp [h0])]; exact ⟨_, rfl, fun _ => by rw [if_pos h0, if_neg hk]⟩
    · rw [if_neg (by simp only; omega)]
      obtain ⟨k, e1, e2, e3, e4⟩ := Qmt h h0
      unfold Ii
      have := Qld (Jk root (Xf 30#8) (wd (x.1 : Int))) (w := x.2) (k := k + 1) (by have := h.1.2.2; omega) e3 (by omega)
      rw [← e2] at this
      simp only
      rw [this, bind_some, bind_some]
      exact ⟨_, rfl, fun h => absurd h h0⟩
theorem Xfr {root : W2} {k' : BitVec 8} {x : Nat × Nat} (h : Qd8 x) (h0 : x.2 ≠ 0) : Ii root (x.1 : Int) (x.2 : Int) = some (Fp root k' x) := by
  obtain ⟨k, e1, e2, e3, e4⟩ := Qmt h h0
  unfold Ii Fp
  have := Qld (Jk root (Xf 30#8) (wd (x.1 : Int))) (w := x.2) (k := k + 1) (by have := h.1.2.2; omega) e3 (by omega)
  rw [← e2] at this
  rw [this, bind_some, if_neg h0, e1]
theorem Xc5 {k : BitVec 8} {d u : Nat} (hk : k = 1#8) : ∀ x ∈ Hw k d u, x.2 = 0 := by
  intro x hx
  unfold Hw at hx
  rw [if_pos hk] at hx
  rcases List.mem_cons.1 hx with rfl | hx
  · rfl
  · obtain ⟨p, _, rfl⟩ := List.mem_map.1 hx; rfl
theorem Qo8 {root : W2} {s : Qs} {d u : Nat} (ui : Int) (h : ∀ x ∈ Hw s.Kind d u, Qd8 x) (hl : (Hw s.Kind d u).length ≤ 100) :
    Qr (Me root s ui (Fz s.Kind d u)) Xb (0, []) = some (Qq.mk ui (Qcv root s.Kind d u) (Qu.mk 0#64 0#64)) := by
  have hls : (Fz s.Kind d u).length = (Hw s.Kind d u).length := by simp [Fz]
  have := Qrp (Hw s.Kind d u) (Me root s ui (Fz s.Kind d u)) (fun j (acc : List Xn) => ((j : Int), acc)) (fun a nx acc => Option.bind (Ks 32 acc [lbl root s.Kind a]) nx) (fun acc => some (Qq.mk ui acc (Qu.mk 0#64 0#64)))
    (fun rec j hj acc => by
      have hj' : j < (Fz s.Kind d u).length := by omega
      have hg : (Fz s.Kind d u)[j] = Xo.mk ((Hw s.Kind d u)[j].1 : Int) ((Hw s.Kind d u)[j].2 : Int) := by simp [Fz]
      have hok := h _ (List.getElem_mem hj)
      obtain ⟨k, e1, e2⟩ := Xbs (root := root) (s := s) hok (fun hk => Xc5 hk _ (List.getElem_mem hj))
      simp only [Me, Qje, Qfz]
      rw [if_pos (by omega), Kd hj', bind_some, hg, e1, bind_some, bind_some]
      simp only [bind_some]
      by_cases h0 : (Hw s.Kind d u)[j].2 = 0
      · rw [if_neg (by omega), e2 h0, Wp (by omega)]; rfl
      · rw [if_pos (by omega), Xfr (k' := s.Kind) hok h0, bind_some, Wp (by omega)]; rfl)
    (fun rec acc => by simp only [Me]; rw [if_neg (by omega)]) (f := Xb) (Ki (by omega)) ([] : List Xn)
  rw [show ((0 : Nat) : Int) = 0 from rfl] at this
  rw [this]
  exact (Qio 32 0 (fun _ => true) (lbl root s.Kind) _ _ _ _ (fun a _ nx l => rfl) (by simp; omega)).trans (by simp [Qcv, Qrl])
theorem Xed {k : BitVec 8} {d : Nat} {st u : Int} (h : d ≤ 6) : Qah ⟨k, (d : Int), st⟩ u = some (decide (0 ≤ u ∧ u < ((2 ^ d : Nat) : Int))) := by
  unfold Qah
  by_cases h0 : (0 : Int) ≤ u
  · rw [if_pos h0, Qus h, bind_some]; congr 1; apply decide_eq_decide.2; omega
  · rw [if_neg h0]; congr 1; symm; apply decide_eq_false; omega
theorem Xfy {d : Nat} {u : Int} (h : d ≤ 6) : Qg2 (d : Int) u = some (decide (0 ≤ u ∧ u < ((2 ^ d : Nat) : Int))) := by
  unfold Qg2
  by_cases h0 : (0 : Int) ≤ u
  · rw [if_pos h0, Qfk h, bind_some]; congr 1; apply decide_eq_decide.2; omega
  · rw [if_neg h0]; congr 1; symm; apply decide_eq_false; omega
def Qjo : Qq := Qq.mk 0 [] (Qu.mk 0#64 0#64)
def Qjp (root : W2) (s : Qs) (u : Int) : Qq × Int :=
  if Yp s then (if 0 ≤ u ∧ u < ((2 ^ s.Depth.toNat : Nat) : Int) then (Qq.mk u (Qcv root s.Kind s.Depth.toNat u.toNat) (Qu.mk 0#64 0#64), 0) else (Qjo, 2)) else (Qjo, 30)
theorem Qvs (root : W2) (s : Qs) (u : Int) : Qdp root s u = some (Qjp root s u) ∧ Qcb root s u = some (Qjp root s u) ∧ (Qjp root s u).1.Labels.length ≤ 100 := by
  unfold Qdp Qcb Qjp
  rw [Xaa, Mr, bind_some, bind_some]
  cases hv : Yp s with
  | false => exact ⟨rfl, rfl, by simp [Qjo]⟩
  | true =>
    obtain ⟨d, hd, h6⟩ := Qk6 hv
    have ht : Wv s = ⟨s.Kind, (d : Int), (Pd d : Int)⟩ := by unfold Wv; rw [hd, Int.toNat_natCast]
    simp only [if_true, Bool.not_true, cond_false]
    rw [if_neg (by simp), hd, Xfy h6, Int.toNat_natCast]
    have e0 : Qah (Wv s) u = some (decide (0 ≤ u ∧ u < ((2 ^ d : Nat) : Int))) := by rw [ht]; exact Xed h6
    rw [e0, bind_some, bind_some]
    by_cases hu : 0 ≤ u ∧ u < ((2 ^ d : Nat) : Int)
    · rw [decide_eq_true hu, if_pos hu]
      simp only [Bool.not_true, cond_false]
      obtain ⟨n, hn⟩ : ∃ n : Nat, u = (n : Int) := ⟨u.toNat, by omega⟩
      subst hn
      obtain ⟨e1, e2, e3, e4⟩ := Xcc (u := n) hv hd h6 (by omega)
      unfold Qhu Qjd
      rw [bind_some]
      simp only
      rw [Int.toNat_natCast, ht, e1, e2, bind_some, bind_some, ← ht, Qne _ e4 e3, Qo8 _ e4 e3, bind_some]
      exact ⟨rfl, rfl, by simpa [Qcv] using e3⟩
    · rw [decide_eq_false hu, if_neg hu]; exact ⟨rfl, rfl, by simp [Qjo]⟩
end Go.Sx

end
section
set_option linter.unusedVariables false
set_option linter.unusedSimpArgs false
set_option maxRecDepth 100000
namespace Go.Sx.Po
open Go
abbrev bn (n : Nat) : BitVec 64 := BitVec.ofNat 64 n
theorem Qkt (x : BitVec 64) : ∃ n, n < 18446744073709551616 ∧ x = bn n := ⟨x.toNat, x.isLt, by simp [bn]⟩
theorem Yk {n : Nat} (h : n < 18446744073709551616) : (bn n).toNat = n := by rw [bn, BitVec.toNat_ofNat]; exact Nat.mod_eq_of_lt h
theorem Bk {a b : Nat} (ha : a < 18446744073709551616) (hb : b < 18446744073709551616) : bn a = bn b ↔ a = b := by
  constructor
  · intro h; rw [← Yk ha, ← Yk hb, h]
  · intro h; rw [h]
theorem Wy {a b : Nat} (ha : a < 18446744073709551616) (hb : b < 18446744073709551616) : bn a < bn b ↔ a < b := by rw [BitVec.lt_def, Yk ha, Yk hb]
theorem Lr {a b : Nat} (ha : a < 18446744073709551616) (hb : b < 18446744073709551616) : bn a ≤ bn b ↔ a ≤ b := by rw [BitVec.le_def, Yk ha, Yk hb]
theorem Dn (a b : Nat) : bn a * bn b = bn (a * b) := by apply BitVec.eq_of_toNat_eq; simp [bn]
theorem Uo (a b : Nat) : bn a + bn b = bn (a + b) := by apply BitVec.eq_of_toNat_eq; simp [bn]
theorem Qda {a b : Nat} (ha : a < 18446744073709551616) (h : b ≤ a) : bn a - bn b = bn (a - b) := by
  apply BitVec.eq_of_toNat_eq
  rw [BitVec.toNat_sub, Yk ha, Yk (by omega), Yk (by omega)]; omega
theorem Qwd (n : Nat) (h : n < 18446744073709551616) : bn n >>> 1 = bn (n / 2) := by
  apply BitVec.eq_of_toNat_eq
  rw [BitVec.toNat_ushiftRight, Yk h, Yk (by omega), Nat.shiftRight_eq_div_pow]
theorem Qwc (n : Nat) (h : n < 18446744073709551616) : bn n &&& 1#64 = bn (n % 2) := by
  apply BitVec.eq_of_toNat_eq
  rw [BitVec.toNat_and, Yk h, Yk (n := n % 2) (by omega)]
  exact Nat.and_one_is_mod n
theorem Yi {a m : Nat} (ha : a < 18446744073709551616) (hm : 0 < m) (hm2 : m < 18446744073709551616) : Kk (bn a) (bn m) = some (bn (a % m)) := by
  have := Nat.mod_lt a hm
  unfold Kk
  rw [if_neg (fun h => by have := (Bk (b := 0) hm2 (by omega)).1 h; omega)]
  congr 1
  apply BitVec.eq_of_toNat_eq
  rw [BitVec.toNat_umod, Yk ha, Yk hm2, Yk (by omega)]
theorem Qtl {a m : Nat} (ha : a < 18446744073709551616) (hm : 0 < m) (hm2 : m < 18446744073709551616) : Rk (bn a) (bn m) = some (bn (a / m)) := by
  have := Nat.div_le_self a m
  unfold Rk
  rw [if_neg (fun h => by have := (Bk (b := 0) hm2 (by omega)).1 h; omega)]
  congr 1
  apply BitVec.eq_of_toNat_eq
  rw [BitVec.toNat_udiv, Yk ha, Yk hm2, Yk (by omega)]
def Dl (n : Nat) : Prop := 2 ≤ n ∧ ∀ e, 2 ≤ e → e * e ≤ n → n % e ≠ 0
theorem Qnd {n : Nat} (hn : n ≤ 1048575) (T : Bool) (F : (BitVec 64 → Option Bool) → BitVec 64 → Option Bool) (hF : ∀ rec a, F rec a = if a * a ≤ bn n then Option.bind (Kk (bn n) a) fun x4 => if x4 = 0#64 then some false else rec (a + 1#64) else some T) :
    ∀ (m d f : Nat), d + m = 1025 → m < f → 2 ≤ d → ∃ b, Qr F f (bn d) = some b ∧ (b = true ↔ T = true ∧ ∀ e, d ≤ e → e * e ≤ n → n % e ≠ 0)
  | m, d, 0, _, h, _ => by omega
  | 0, d, f + 1, hd, _, h2 => by
    obtain rfl : d = 1025 := by omega
    rw [Zt, hF, Dn, if_neg (by rw [Lr (by omega) (by omega)]; omega)]
    refine ⟨T, rfl, fun h => ⟨h, fun e he hen => ?_⟩, fun h => h.1⟩
    have := Nat.mul_le_mul he he
    omega
  | m + 1, d, f + 1, hd, hf, h2 => by
    have hdd : d * d ≤ 1025 * 1025 := Nat.mul_le_mul (by omega) (by omega)
    rw [Zt, hF, Dn]
    by_cases hle : d * d ≤ n
    · rw [if_pos ((Lr (by omega) (by omega)).2 hle), Yi (by omega) (by omega) (by omega), bind_some]
      by_cases hz : n % d = 0
      · rw [hz, if_pos rfl]
        exact ⟨false, rfl, (fun h => by cases h), fun h => absurd hz (h.2 d (Nat.le_refl _) hle)⟩
      · have hzn : ¬ bn (n % d) = 0#64 := fun h => hz ((Bk (b := 0) (by have := Nat.mod_lt n (show 0 < d by omega); omega) (by omega)).1 h)
        rw [if_neg hzn, show (1#64) = bn 1 from rfl, Uo]
        obtain ⟨b, e1, e2⟩ := Qnd hn T F hF m (d + 1) f (by omega) (by omega) (by omega)
        refine ⟨b, e1, ?_⟩
        rw [e2]
        refine and_congr_right fun _ => ⟨fun h e he hen => ?_, fun h e he => h e (by omega)⟩
        rcases Nat.lt_or_ge d e with h' | h'
        · exact h e (by omega) hen
        · obtain rfl : e = d := by omega
          exact hz
    · rw [if_neg (fun h => hle ((Lr (by omega) (by omega)).1 h))]
      refine ⟨T, rfl, fun h => ⟨h, fun e he hen => ?_⟩, fun h => h.1⟩
      have := Nat.mul_le_mul he he
      omega
theorem Qth {n : Nat} (h64 : n < 18446744073709551616) : ∃ b, Qbo (bn n) = some b ∧ (b = true ↔ n ≤ 1048575 ∧ Dl n) := by
  unfold Qbo Qf3
  by_cases h2 : n < 2
  · rw [if_pos ((Wy h64 (b := 2) (by omega)).2 h2)]
    exact ⟨false, rfl, (fun h => by cases h), fun h => by have := h.2.1; omega⟩
  · rw [if_neg (fun h => h2 ((Wy h64 (b := 2) (by omega)).1 h))]
    by_cases hg : 1048575 < n
    · rw [decide_eq_true ((Wy (a := 1048575) (by omega) h64).2 hg)]
      exact ⟨false, rfl, (fun h => by cases h), fun h => by omega⟩
    · rw [decide_eq_false (fun h => hg ((Wy (a := 1048575) (by omega) h64).1 h)), cond_false]
      obtain ⟨b, e1, e2⟩ := Qnd (n := n) (by omega) true (Qf4 (bn n)) (fun rec a => rfl) 1023 2 Xb (by omega) (Ki (by omega)) (by omega)
      refine ⟨b, e1, ?_⟩
      rw [e2]; unfold Dl
      exact ⟨fun h => ⟨by omega, by omega, h.2⟩, fun h => ⟨rfl, h.2.2⟩⟩
theorem Qin {n : Nat} (hn : n ≤ 1048575) : ∃ b, Qfl (bn n) = some b ∧ (b = true ↔ Dl n) := by
  obtain ⟨b, e1, e2⟩ := Qnd (n := n) hn (decide (2#64 ≤ bn n)) (Qfm (bn n)) (fun rec a => rfl) 1023 2 Xb (by omega) (Ki (by omega)) (by omega)
  refine ⟨b, e1, ?_⟩
  rw [e2, decide_eq_true_eq, show (2#64) = bn 2 from rfl, Lr (by omega) (by omega)]; rfl
theorem Xe3 (x n : Nat) : x ^ n = x ^ (n % 2) * (x * x) ^ (n / 2) := by
  have : x ^ n = x ^ (n % 2 + 2 * (n / 2)) := by congr 1; omega
  rw [this, Nat.pow_add, Nat.pow_mul, Nat.pow_two]
theorem Qte {m x n o : Nat} : o * x ^ n % m = (if n % 2 = 1 then o * x % m else o) * (x * x % m) ^ (n / 2) % m := by
  rw [Xe3 x n]
  rcases Nat.mod_two_eq_zero_or_one n with h | h
  · rw [h, if_neg (by omega), Nat.pow_zero, Nat.one_mul, Nat.mul_mod o ((x * x % m) ^ (n / 2)), ← Nat.pow_mod, ← Nat.mul_mod]
  · rw [h, if_pos rfl, Nat.pow_one, Nat.mul_mod (o * x % m), Nat.mod_mod, ← Nat.pow_mod, ← Nat.mul_mod, Nat.mul_assoc]
theorem Qnc {m : Nat} (hm : 0 < m) (hm2 : m < 4294967296) : ∀ (k n x o f : Nat), n < 2 ^ k → k ≤ 64 → k < f → x < m → o < m → Qr (Ad (bn m)) f (bn x, bn n, bn o) = some (bn (o * x ^ n % m))
  | k, n, x, o, 0, _, _, h, _, _ => by omega
  | 0, n, x, o, f + 1, hn, _, _, hx, ho => by
    obtain rfl : n = 0 := by simp at hn; exact hn
    rw [Zt]; simp only [Ad]
    rw [if_neg (by decide), Nat.pow_zero, Nat.mul_one, Nat.mod_eq_of_lt ho]
  | k + 1, n, x, o, f + 1, hn, hk, hf, hx, ho => by
    have hn64 : n < 18446744073709551616 := Nat.lt_of_lt_of_le hn (Nat.le_trans (Nat.pow_le_pow_right (by omega) hk) (by decide))
    have hxx : x * x < 18446744073709551616 := Nat.lt_of_le_of_lt (Nat.mul_le_mul (Nat.le_of_lt hx) (Nat.le_of_lt hx)) (by have := Nat.mul_lt_mul'' hm2 hm2; omega)
    have hox : o * x < 18446744073709551616 := Nat.lt_of_le_of_lt (Nat.mul_le_mul (Nat.le_of_lt ho) (Nat.le_of_lt hx)) (by have := Nat.mul_lt_mul'' hm2 hm2; omega)
    rw [Zt]; simp only [Ad]
    by_cases h0 : n = 0
    · subst h0
      rw [if_neg (by decide), Nat.pow_zero, Nat.mul_one, Nat.mod_eq_of_lt ho]
    · rw [if_pos ((Wy (a := 0) (by omega) hn64).2 (by omega)), Qwc n hn64, show Jq (un 1#64) = some 1 from by decide, Dn, Dn, Yi hxx hm (by omega), Yi hox hm (by omega), Qte]
      simp only [bind_some]
      rw [Qwd n hn64]
      have Jt : n / 2 < 2 ^ k := by rw [Nat.pow_succ] at hn; omega
      have h1 := Nat.mod_lt (x * x) hm
      have h2 := Nat.mod_lt (o * x) hm
      by_cases hodd : n % 2 = 1
      · rw [if_pos (by rw [hodd]), if_pos hodd]
        exact Qnc hm hm2 k (n / 2) _ _ f Jt (by omega) (by omega) h1 h2
      · rw [if_neg (fun h => hodd ((Bk (b := 1) (by omega) (by omega)).1 h)), if_neg hodd]
        exact Qnc hm hm2 k (n / 2) _ _ f Jt (by omega) (by omega) h1 ho
theorem Qtf {b n m : Nat} (hb : b < 18446744073709551616) (hn : n < 18446744073709551616) (hm : 0 < m) (hm2 : m < 4294967296) : Qbn (bn b) (bn n) (bn m) = some (bn (b ^ n % m)) := by
  unfold Qbn
  rw [show (1#64) = bn 1 from rfl, Yi (by omega) hm (by omega), bind_some, Yi hb hm (by omega), bind_some, Qnc hm hm2 64 n _ _ Xb (by omega) (by omega) (Ki (by omega)) (Nat.mod_lt _ hm) (Nat.mod_lt _ hm), Nat.mod_mul_mod, Nat.one_mul, ← Nat.pow_mod]
theorem Qo7 {m : Nat} (hm : 0 < m) (hm2 : m < 4294967296) : ∀ (k n x o f : Nat), n < 2 ^ k → k ≤ 64 → k < f → x < m → o < m → Qr (Aq (bn m)) f (bn n, bn o, bn x) = some (bn (o * x ^ n % m))
  | k, n, x, o, 0, _, _, h, _, _ => by omega
  | 0, n, x, o, f + 1, hn, _, _, hx, ho => by
    obtain rfl : n = 0 := by simp at hn; exact hn
    rw [Zt]; simp only [Aq]
    rw [if_neg (by decide), Nat.pow_zero, Nat.mul_one, Nat.mod_eq_of_lt ho]
  | k + 1, n, x, o, f + 1, hn, hk, hf, hx, ho => by
    have hn64 : n < 18446744073709551616 := Nat.lt_of_lt_of_le hn (Nat.le_trans (Nat.pow_le_pow_right (by omega) hk) (by decide))
    have hxx : x * x < 18446744073709551616 := Nat.lt_of_le_of_lt (Nat.mul_le_mul (Nat.le_of_lt hx) (Nat.le_of_lt hx)) (by have := Nat.mul_lt_mul'' hm2 hm2; omega)
    have hox : o * x < 18446744073709551616 := Nat.lt_of_le_of_lt (Nat.mul_le_mul (Nat.le_of_lt ho) (Nat.le_of_lt hx)) (by have := Nat.mul_lt_mul'' hm2 hm2; omega)
    rw [Zt]; simp only [Aq]
    by_cases h0 : n = 0
    · subst h0
      rw [if_neg (by decide), Nat.pow_zero, Nat.mul_one, Nat.mod_eq_of_lt ho]
    · unfold Qfn
      rw [if_pos ((Wy (a := 0) (by omega) hn64).2 (by omega)), show (2#64) = bn 2 from rfl, Yi hn64 (by omega) (by omega), Dn, Dn, Yi hxx hm (by omega), Yi hox hm (by omega), Qtl hn64 (by omega) (by omega), Qte]
      simp only [bind_some]
      have Jt : n / 2 < 2 ^ k := by rw [Nat.pow_succ] at hn; omega
      have h1 := Nat.mod_lt (x * x) hm
      have h2 := Nat.mod_lt (o * x) hm
      by_cases hodd : n % 2 = 1
      · rw [if_pos (by rw [hodd]), if_pos hodd]
        exact Qo7 hm hm2 k (n / 2) _ _ f Jt (by omega) (by omega) h1 h2
      · rw [if_neg (fun h => hodd ((Bk (b := 1) (by omega) (by omega)).1 h)), if_neg hodd]
        exact Qo7 hm hm2 k (n / 2) _ _ f Jt (by omega) (by omega) h1 ho
theorem Qo6 {b n m : Nat} (hb : b < 18446744073709551616) (hn : n < 18446744073709551616) (hm : 0 < m) (hm2 : m < 4294967296) : Ap (bn b) (bn n) (bn m) = some (bn (b ^ n % m)) := by
  unfold Ap
  rw [show (1#64) = bn 1 from rfl, Yi (by omega) hm (by omega), bind_some, Yi hb hm (by omega), bind_some, Qo7 hm hm2 64 n _ _ Xb (by omega) (by omega) (Ki (by omega)) (Nat.mod_lt _ hm) (Nat.mod_lt _ hm), Nat.mod_mul_mod, Nat.one_mul, ← Nat.pow_mod]
end Go.Sx.Po

end
section
set_option linter.unusedVariables false
set_option linter.unusedSimpArgs false
set_option maxRecDepth 100000
namespace Go.Sx.Po
open Go
theorem Ce {τ R : Type} (F : (τ → Option R) → τ → Option R) (I : Nat → τ → Prop) (n : Nat) (r : Option R) (hn : n < 9223372036854775808) {s : τ} (h0 : I 0 s) (hs : ∀ j s, j < n → I j s → ∃ s', I (j + 1) s' ∧ ∀ rec, F rec s = rec s') (he : ∀ s, I n s → ∀ rec, F rec s = r) : Qr F Xb s = r :=
  Qii F I n r hs he n 0 Xb s (by omega) (Ki hn) h0
def Kw (l : List (BitVec 8)) : BitVec 64 := l.foldl (fun n c => 256#64 * n + c.setWidth 64) 0#64
theorem Mm (a : BitVec 64) (c : BitVec 8) : (a <<< 8) ||| (c.setWidth 64) = 256#64 * a + c.setWidth 64 := by
  have e1 : 256#64 * a = a <<< 8 := by
    apply BitVec.eq_of_toNat_eq
    rw [BitVec.toNat_mul, BitVec.toNat_shiftLeft, Nat.shiftLeft_eq, Nat.mul_comm]; rfl
  rw [e1]
  symm
  apply BitVec.add_eq_or_of_and_eq_zero
  apply BitVec.eq_of_getLsbD_eq
  intro j hj
  rw [BitVec.getLsbD_and, BitVec.getLsbD_shiftLeft, BitVec.getLsbD_setWidth, BitVec.getLsbD_zero]
  by_cases h : j < 8
  · simp [h]
  · simp [BitVec.getLsbD_of_ge c j (by omega)]
theorem Bb (l : List (BitVec 8)) (c : BitVec 8) : Kw (l ++ [c]) = 256#64 * Kw l + c.setWidth 64 := by simp [Kw]
theorem Xgd (x : BitVec 64) (s : Nat) : 256#64 * (x >>> (s + 8)) + ((x >>> s).setWidth 8).setWidth 64 = x >>> s := by
  rw [← Mm]
  apply BitVec.eq_of_getLsbD_eq
  intro i hi
  simp only [BitVec.getLsbD_or, BitVec.getLsbD_shiftLeft, BitVec.getLsbD_ushiftRight, BitVec.getLsbD_setWidth]
  by_cases h : i < 8
  · simp [h, hi]
  · simp [h, hi, show s + 8 + (i - 8) = s + i from by omega]
theorem Qoj (x : BitVec 64) : Kw (w8 x) = x := by
  have h0 : Kw [] = x >>> 64 := by
    apply BitVec.eq_of_getLsbD_eq
    intro i hi
    rw [BitVec.getLsbD_ushiftRight, BitVec.getLsbD_of_ge x _ (by omega)]; simp [Kw]
  have st : ∀ (l : List (BitVec 8)) (i : Nat), i ≤ 7 → Kw l = x >>> (56 - 8 * i + 8) → Kw (l ++ [Kg x i]) = x >>> (56 - 8 * i) := fun l i hi hl => by
    rw [Bb, hl]; exact Xgd x (56 - 8 * i)
  have h1 := st [] 0 (by omega) h0
  have h2 := st _ 1 (by omega) h1
  have h3 := st _ 2 (by omega) h2
  have h4 := st _ 3 (by omega) h3
  have h5 := st _ 4 (by omega) h4
  have h6 := st _ 5 (by omega) h5
  have h7 := st _ 6 (by omega) h6
  have h8 := st _ 7 (by omega) h7
  rw [show 56 - 8 * 7 = 0 from rfl, BitVec.ushiftRight_zero] at h8
  exact h8
theorem Ms (l : List (BitVec 8)) (hx : l.length ≤ 1000) : ∀ (m i fuel : Nat), l.length - i = m → i ≤ l.length → m < fuel → Qr (Gg l) fuel (Kw (l.take i), (i : Int)) = some (Kw l)
  | m, i, 0, _, _, hf => by omega
  | 0, i, fuel + 1, hm, hi, hf => by
    rw [Zt]; simp only [Gg]; rw [if_neg (by omega), List.take_of_length_le (by omega)]
  | m + 1, i, fuel + 1, hm, hi, hf => by
    rw [Zt]; simp only [Gg]
    rw [if_pos (by omega), Kd (by omega), bind_some, ← Bb, ← Gi _ _ (by omega), Xu (by omega) (by omega)]
    exact Ms l hx m (i + 1) fuel (by omega) (by omega) (by omega)
theorem Oi (l : List (BitVec 8)) (h : l.length ≤ 1000) : Cw l = some (Kw l) := Ms l h _ 0 Xb rfl (by omega) (Ki (by omega))
theorem Qry (k : W2) : Xz k = w8 k.1 ++ w8 k.2 := rfl
theorem Xi9 (k : W2) (A B : List (BitVec 8)) (hA : A.length = 8) (hB : B.length = 8) (hk : Xz k = A ++ B) : Qa5 k = some ⟨Kw A, Kw B⟩ := by
  unfold Qa5
  refine Ce _ (fun j x => x = ((j : Int), Kw (A.take j), Kw (B.take j))) 8 _ (by omega) (by simp [Kw]) ?_ ?_
  · rintro j _ hj rfl
    refine ⟨_, rfl, fun rec => ?_⟩
    have h1 : j < A.length := by omega
    have h2 : j < B.length := by omega
    have g1 : Xt (Xz k) (j : Int) = some A[j] := by rw [hk, Kd (by rw [List.length_append]; omega), List.getElem_append_left h1]
    have g2 : Xt (Xz k) ((8 + j : Nat) : Int) = some B[j] := by
      rw [hk, Kd (by rw [List.length_append]; omega), List.getElem_append_right (by omega)]
      congr 2; omega
    simp only [Qa6]
    rw [if_pos (by omega), show Jq (un 8#64) = some 8 from by decide, bind_some, g1, bind_some, bind_some, Xu (n := 8 + (j : Int)) (by omega) (by omega), show (8 : Int) + (j : Int) = ((8 + j : Nat) : Int) from by omega, g2, bind_some, Mm, Mm, ← Bb, ← Bb, ← Gi _ _ h1, ← Gi _ _ h2, Wp (by omega)]
  · rintro _ rfl rec
    simp only [Qa6]
    rw [if_neg (by omega), List.take_of_length_le (by omega), List.take_of_length_le (by omega)]
theorem Oo (k : W2) : Qa5 k = some ⟨k.1, k.2⟩ := by
  rw [Xi9 k _ _ (Sv _) (Sv _) (Qry k), Qoj, Qoj]
theorem Xd0 (k : W2) (n m : BitVec 64) (hm : m ≠ 0#64) : Qdi k n m = some ((Jk k (Xf 3#8) n).1 % m) := by
  unfold Qdi
  rw [if_neg hm, Oo, bind_some]
  simp only
  unfold Kk
  rw [if_neg hm]; rfl
theorem Xfu (k : W2) (n m : BitVec 64) (hm : m ≠ 0#64) : Qfr k n m = some ((Jk k (Xf 3#8) n).1 % m) := by
  unfold Qfr
  rw [if_neg hm, List.drop_zero, Qry, List.take_left' (Sv _), Oi _ (by rw [Sv]; omega), bind_some, Qoj]
  unfold Kk
  rw [if_neg hm]; rfl
end Go.Sx.Po

end
section
set_option linter.unusedVariables false
set_option linter.unusedSimpArgs false
set_option maxRecDepth 100000
namespace Go.Sx.Po
open Go
def Qhf (p q g : Nat) : Prop := (p ≤ 1048575 ∧ Dl p) ∧ (q ≤ 1048575 ∧ Dl q) ∧ (p - 1) % q = 0 ∧ 2 ≤ g ∧ g < p ∧ g ^ q % p = 1
theorem Xbh {p q g : Nat} (hp : p < 18446744073709551616) (hq : q < 18446744073709551616) (hg : g < 18446744073709551616) :
    ∃ b, Qf1 ⟨bn p, bn q, bn g⟩ = some (if b = true then 0 else 13) ∧ Qfo ⟨bn p, bn q, bn g⟩ = some b ∧ (b = true ↔ Qhf p q g) := by
  obtain ⟨b1, e1, i1⟩ := Qth hp
  obtain ⟨b2, e2, i2⟩ := Qth hq
  unfold Qf1 Qfo
  simp only
  rw [e1, bind_some, show (1048575#64) = bn 1048575 from rfl]
  have no : ∀ (h : ¬ Qhf p q g), (false = true ↔ Qhf p q g) := fun h => ⟨(fun e => by cases e), fun e => absurd e h⟩
  by_cases hP : p ≤ 1048575 ∧ Dl p
  · have c0 : ¬ bn 1048575 < bn p := fun h => by have := (Wy (by omega) hp).1 h; omega
    rw [i1.2 hP, if_neg c0]
    obtain ⟨c1, f1, j1⟩ := Qin hP.1
    rw [f1, bind_some, j1.2 hP.2]
    simp only [Bool.not_true, cond_false]
    rw [e2, bind_some]
    by_cases hQ : q ≤ 1048575 ∧ Dl q
    · have c0' : ¬ bn 1048575 < bn q := fun h => by have := (Wy (by omega) hq).1 h; omega
      rw [i2.2 hQ, if_neg c0']
      obtain ⟨c2, f2, j2⟩ := Qin hQ.1
      rw [f2, bind_some, j2.2 hQ.2]
      simp only [Bool.not_true, cond_false]
      have hp2 := hP.2.1
      have hq2 := hQ.2.1
      rw [show (1#64) = bn 1 from rfl, Qda hp (by omega), Yi (by omega) (by omega) hq, bind_some, bind_some]
      have hmod := Nat.mod_lt (p - 1) (show 0 < q by omega)
      unfold Re Ct
      simp only
      by_cases hz : (p - 1) % q = 0
      · rw [hz, if_neg (by simp), decide_eq_false (by simp), cond_false, show (2#64) = bn 2 from rfl]
        by_cases h2 : 2 ≤ g
        · have c3 : ¬ bn g < bn 2 := fun h => by have := (Wy hg (by omega)).1 h; omega
          have c4 : bn 2 ≤ bn g := (Lr (by omega) hg).2 h2
          rw [if_neg c3, if_pos c4]
          by_cases h3 : g < p
          · have c5 : ¬ bn p ≤ bn g := fun h => by have := (Lr hp hg).1 h; omega
            have c6 : bn g < bn p := (Wy hg hp).2 h3
            rw [if_neg c5, if_pos c6, Qtf hg hq (by omega) (by omega), Qo6 hg hq (by omega) (by omega), bind_some, bind_some]
            have hpm := Nat.mod_lt (g ^ q) (show 0 < p by omega)
            have hone : bn (g ^ q % p) = bn 1 ↔ g ^ q % p = 1 := Bk (by omega) (by omega)
            refine ⟨decide (bn (g ^ q % p) = bn 1), ?_, rfl, ?_⟩
            · by_cases h4 : bn (g ^ q % p) = bn 1
              · rw [decide_eq_false (by simpa using h4), decide_eq_true h4]; rfl
              · rw [decide_eq_true h4, decide_eq_false h4]; rfl
            · rw [decide_eq_true_eq, hone]
              exact ⟨fun h => ⟨hP, hQ, hz, h2, h3, h⟩, fun h => h.2.2.2.2.2⟩
          · have c5 : bn p ≤ bn g := (Lr hp hg).2 (by omega)
            have c6 : ¬ bn g < bn p := fun h => h3 ((Wy hg hp).1 h)
            rw [if_pos c5, if_neg c6]
            exact ⟨false, rfl, rfl, no fun h => h3 h.2.2.2.2.1⟩
        · have c3 : bn g < bn 2 := (Wy hg (by omega)).2 (by omega)
          have c4 : ¬ bn 2 ≤ bn g := fun h => h2 ((Lr (by omega) hg).1 h)
          rw [if_pos c3, if_neg c4]
          exact ⟨false, rfl, rfl, no fun h => h2 h.2.2.2.1⟩
      · have hz' : bn ((p - 1) % q) ≠ 0#64 := fun h => hz ((Bk (b := 0) (by omega) (by omega)).1 h)
        rw [if_pos hz', decide_eq_true hz']
        exact ⟨false, rfl, rfl, no fun h => hz h.2.2.1⟩
    · have hb2 : b2 = false := by cases b2 with | false => rfl | true => exact absurd (i2.1 rfl) hQ
      rw [hb2]
      refine ⟨false, rfl, ?_, no fun h => hQ h.2.1⟩
      by_cases hg' : 1048575 < q
      · have c0' : bn 1048575 < bn q := (Wy (by omega) hq).2 hg'
        rw [if_pos c0']; rfl
      · have c0' : ¬ bn 1048575 < bn q := fun h => hg' ((Wy (by omega) hq).1 h)
        rw [if_neg c0']
        obtain ⟨c2, f2, j2⟩ := Qin (n := q) (by omega)
        have : c2 = false := by cases c2 with | false => rfl | true => exact absurd ⟨by omega, j2.1 rfl⟩ hQ
        rw [f2, bind_some, this]; rfl
  · have hb1 : b1 = false := by cases b1 with | false => rfl | true => exact absurd (i1.1 rfl) hP
    rw [hb1]
    refine ⟨false, rfl, ?_, no fun h => hP h.1⟩
    by_cases hg' : 1048575 < p
    · have c0 : bn 1048575 < bn p := (Wy (by omega) hp).2 hg'
      rw [if_pos c0]; rfl
    · have c0 : ¬ bn 1048575 < bn p := fun h => hg' ((Wy (by omega) hp).1 h)
      rw [if_neg c0]
      obtain ⟨c1, f1, j1⟩ := Qin (n := p) (by omega)
      have : c1 = false := by cases c1 with | false => rfl | true => exact absurd ⟨by omega, j1.1 rfl⟩ hP
      rw [f1, bind_some, this]; rfl
theorem Qnk : ∀ d : Fin 7, Lh (d.1 : Int) = some ((2 ^ d.1 : Nat) : Int) := by decide +kernel
theorem Qfk {d : Nat} (h : d ≤ 6) : Lh (d : Int) = some ((2 ^ d : Nat) : Int) := Qnk ⟨d, by omega⟩
theorem Xge : ∀ d : Fin 7, Pc 1 d.1 = ((2 ^ d.1 : Nat) : Int) := by decide +kernel
theorem Qjs {d : Nat} (h : d ≤ 6) : Pc 1 d = ((2 ^ d : Nat) : Int) := Xge ⟨d, by omega⟩
theorem Qgv (n : Nat) : Jq (n : Int) = some n := by unfold Jq; rw [if_pos (by omega)]; rfl
theorem Cs {d : Nat} (h : d ≤ 6) : 2 ^ d ≤ 64 := Nat.le_trans (Nat.pow_le_pow_right (by omega) h) (by decide)
theorem Qd5 (n : Nat) : wd (n : Int) = bn n := by unfold wd bn; exact BitVec.ofInt_natCast 64 n
structure Tu (s : Qs) (d t p q g : Nat) : Prop where
  kind : s.Kind = 4#8
  depth : s.Depth = (d : Int)
  deg : s.Degree = (t : Int)
  d6 : d ≤ 6
  t1 : 1 ≤ t
  t8 : t ≤ 8
  grp : s.Group = ⟨bn p, bn q, bn g⟩
  ok : Qhf p q g
  big : 2 ^ d + t < q
theorem Mr (s : Qs) : (Ri s = some false ∧ Rr s = some false) ∨ (Ri s = some true ∧ Rr s = some true ∧ ∃ d t p q g, Tu s d t p q g) := by
  obtain ⟨kd, dp, dg, ⟨P, Q, G⟩⟩ := s
  obtain ⟨p, hp, rfl⟩ := Qkt P
  obtain ⟨q, hq, rfl⟩ := Qkt Q
  obtain ⟨g, hg, rfl⟩ := Qkt G
  unfold Ri Rr Rs
  simp only
  by_cases h1 : kd = 4#8
  · rw [if_pos h1, if_neg (show ¬ kd ≠ 4#8 from fun h => h h1)]
    by_cases h2 : 0 ≤ dp
    · rw [if_pos h2, if_neg (show ¬ dp < 0 by omega)]
      by_cases h3 : dp ≤ 6
      · rw [if_pos h3, if_neg (show ¬ 6 < dp by omega)]
        by_cases h4 : 1 ≤ dg
        · rw [if_pos h4, if_neg (show ¬ dg < 1 by omega)]
          by_cases h5 : dg ≤ 8
          · rw [if_pos h5, if_neg (show ¬ 8 < dg by omega)]
            obtain ⟨b, e1, e2, i⟩ := Xbh hp hq hg
            rw [e1, e2, bind_some, bind_some]
            cases b with
            | false => exact .inl ⟨rfl, rfl⟩
            | true =>
              obtain ⟨d, rfl⟩ : ∃ d : Nat, dp = (d : Int) := ⟨dp.toNat, by omega⟩
              obtain ⟨t, rfl⟩ : ∃ t : Nat, dg = (t : Int) := ⟨dg.toNat, by omega⟩
              have h64 := Cs (d := d) (by omega)
              have hpp := Nat.two_pow_pos d
              simp only [Bool.not_true, cond_false, if_true]
              rw [Qgv, bind_some, Qfk (by omega), bind_some, Qjs (by omega), Xu (by omega) (by omega), show ((2 ^ d : Nat) : Int) + (t : Int) = ((2 ^ d + t : Nat) : Int) from by omega, Qd5]
              by_cases Jt : 2 ^ d + t < q
              · rw [decide_eq_true ((Wy (by omega) hq).2 Jt)]
                exact .inr ⟨rfl, rfl, d, t, p, q, g, ⟨h1, rfl, rfl, by omega, by omega, by omega, rfl, i.1 rfl, Jt⟩⟩
              · rw [decide_eq_false (fun h => Jt ((Wy (by omega) hq).1 h))]; exact .inl ⟨rfl, rfl⟩
          · rw [if_neg h5, if_pos (show 8 < dg by omega)]; exact .inl ⟨rfl, rfl⟩
        · rw [if_neg h4, if_pos (show dg < 1 by omega)]; exact .inl ⟨rfl, rfl⟩
      · rw [if_neg h3, if_pos (show 6 < dp by omega)]; exact .inl ⟨rfl, rfl⟩
    · rw [if_neg h2, if_pos (show dp < 0 by omega)]; exact .inl ⟨rfl, rfl⟩
  · rw [if_neg h1, if_pos (show kd ≠ 4#8 from h1)]; exact .inl ⟨rfl, rfl⟩
theorem Tu.qb {s : Qs} {d t p q g : Nat} (h : Tu s d t p q g) : 2 ≤ q ∧ q ≤ 1048575 := ⟨h.ok.2.1.2.1, h.ok.2.1.1⟩
theorem Tu.pb {s : Qs} {d t p q g : Nat} (h : Tu s d t p q g) : 2 ≤ p ∧ p ≤ 1048575 := ⟨h.ok.1.2.1, h.ok.1.1⟩
def cfN (root : W2) (q i : Nat) : Nat := (Jk (Jk root (Xf 40#8) 0#64) (Xf 3#8) (bn i)).1.toNat % q
def Up (root : W2) (q t : Nat) : List Nat := (List.range (t + 1)).map (cfN root q)
theorem Qpl {root : W2} {q t : Nat} (hq : 0 < q) : ∀ c ∈ Up root q t, c < q := by
  intro c hc
  obtain ⟨i, _, rfl⟩ := List.mem_map.1 hc
  exact Nat.mod_lt _ hq
theorem Qsn (x : BitVec 64) {q : Nat} (hq : 0 < q) (hq2 : q < 18446744073709551616) : x % bn q = bn (x.toNat % q) := by
  apply BitVec.eq_of_toNat_eq
  have := Nat.mod_lt x.toNat hq
  rw [BitVec.toNat_umod, Yk hq2, Yk (by omega)]
theorem Qks {q : Nat} (hq : 0 < q) (hq2 : q < 18446744073709551616) : bn q ≠ 0#64 := fun h => by have := (Bk (b := 0) hq2 (by omega)).1 h; omega
theorem Xgb {s : Qs} {d t p q g : Nat} (h : Tu s d t p q g) (root : W2) : Qfh root s = some ((Up root q t).map bn) := by
  obtain ⟨q1, q2⟩ := h.qb
  have ht := h.t8
  unfold Qfh
  rw [h.deg, Xu (by omega) (by omega), show (t : Int) + 1 = ((t + 1 : Nat) : Int) from by omega, Co, if_pos (by omega), bind_some, Int.toNat_natCast]
  refine Ce _ (fun j x => x = ((List.range (t + 1)).map (fun i => if i < j then bn (cfN root q i) else 0#64), (j : Int))) (t + 1) _ (by omega) ?_ ?_ ?_
  · congr 1
    apply List.ext_getElem
    · simp
    · intro i _ _; simp
  · rintro j _ hj rfl
    refine ⟨_, rfl, fun rec => ?_⟩
    simp only [Qbu]
    have hjl : j < ((List.range (t + 1)).map (fun i => if i < j then bn (cfN root q i) else 0#64)).length := by simpa using hj
    rw [if_pos (by simp; omega), h.grp, Qd5]
    simp only
    rw [Xd0 _ _ _ (Qks (by omega) (by omega)), bind_some, Kd hjl, bind_some, Int.toNat_natCast, Wp (by omega), Qsn _ (by omega) (by omega)]
    congr 2
    apply List.ext_getElem
    · simp
    · intro i h1 h2
      rw [List.getElem_set]
      simp only [List.getElem_map, List.getElem_range]
      by_cases e : j = i
      · subst e; rw [if_pos rfl, if_pos (by omega)]; rfl
      · rw [if_neg e]
        by_cases e2 : i < j
        · rw [if_pos e2, if_pos (by omega)]
        · rw [if_neg e2, if_neg (by omega)]
  · rintro _ rfl rec
    simp only [Qbu]
    rw [if_neg (by simp)]
    congr 1
    unfold Up
    rw [List.map_map]
    apply List.map_congr_left
    intro i hi
    rw [if_pos (List.mem_range.1 hi)]; rfl
theorem Qo8 {s : Qs} {d t p q g : Nat} (h : Tu s d t p q g) (root : W2) : Qg5 root s = some ((Up root q t).map bn) := by
  obtain ⟨q1, q2⟩ := h.qb
  have ht := h.t8
  unfold Qg5
  refine Ce _ (fun j x => x = ((List.range j).map (fun i => bn (cfN root q i)), (j : Int))) (t + 1) _ (by omega) (by simp) ?_ ?_
  · rintro j _ hj rfl
    refine ⟨_, rfl, fun rec => ?_⟩
    simp only [Qcd]
    rw [h.deg, if_pos (by omega), h.grp, Qd5]
    simp only
    rw [Xfu _ _ _ (Qks (by omega) (by omega)), bind_some, Vd (by simp; omega), bind_some, Wp (by omega), Qsn _ (by omega) (by omega), List.range_succ, List.map_append]; rfl
  · rintro _ rfl rec
    simp only [Qcd]
    rw [h.deg, if_neg (by omega)]
    unfold Up
    rw [List.map_map]; rfl
def Hd (l : List Nat) (x : Nat) : Nat := l.foldr (fun c a => c + x * a) 0
theorem Qrb (x : Nat) : ∀ (l : List Nat) (c : Nat), Hd (l ++ [c]) x = Hd l x + c * x ^ l.length
  | [], c => by simp [Hd]
  | a :: l, c => by
    have := Qrb x l c
    simp only [Hd] at this ⊢
    rw [List.cons_append, List.foldr_cons, List.foldr_cons, this, List.length_cons, Nat.pow_succ, Nat.mul_add, Nat.add_assoc]
    congr 2
    rw [Nat.mul_left_comm, Nat.mul_comm x]
theorem Qn0 {q a b : Nat} (hq : 2 ≤ q) (hq2 : q ≤ 1048575) (ha : a < q) (hb : b < q) : Sh (bn q) [bn a, bn b] = some (bn (a * b % q)) := by
  unfold Sh
  have hab : a * b < 18446744073709551616 := Nat.lt_of_le_of_lt (Nat.mul_le_mul (Nat.le_of_lt ha) (Nat.le_of_lt hb)) (by have := Nat.mul_le_mul hq2 hq2; omega)
  rw [show Xb = 18446744073709551613 + 1 + 1 + 1 from rfl, Zt]
  simp only [Am]
  rw [if_pos (by simp), show Xt [bn a, bn b] 0 = some (bn a) from rfl, bind_some, show (1#64) = bn 1 from rfl, Dn, Nat.one_mul, Yi (by omega) (by omega) (by omega), bind_some, Nat.mod_eq_of_lt ha, show Qi (0 + 1) = 1 from by decide, Zt]
  simp only [Am]
  rw [if_pos (by simp), show Xt [bn a, bn b] 1 = some (bn b) from rfl, bind_some, Dn, Yi hab (by omega) (by omega), bind_some, show Qi (1 + 1) = 2 from by decide, Zt]
  simp only [Am]
  rw [if_neg (by simp)]
theorem Qp3 (l : List (BitVec 64)) (hl : l.length < 4611686018427387904) : ∀ (k f : Nat), k ≤ l.length → k < f → Qr (Ob l) f ((k : Int) - 1) = some ((List.range k).reverse.map fun i : Nat => ((i : Int), l.getD i 0#64))
  | k, 0, _, h => by omega
  | 0, f + 1, _, _ => by
    rw [Zt]; simp only [Ob]; rw [if_neg (by omega)]; rfl
  | k + 1, f + 1, hk, hf => by
    rw [Zt]; simp only [Ob]
    rw [show ((k + 1 : Nat) : Int) - 1 = (k : Int) from by omega, if_pos (by omega), Kd (by omega), bind_some, Xu (by omega) (by omega), Qp3 l hl k f (by omega) (by omega), Xig, List.range_succ, List.reverse_append, List.map_append]
    have hkk : k < l.length := by omega
    simp [hkk]
theorem Qp2 {q x : Nat} (hq : 2 ≤ q) (hq2 : q ≤ 1048575) (hx : x < q) (l : List Nat) (hl : ∀ c ∈ l, c < q) : ∀ (k : Nat), k ≤ l.length → Vf (Qbs (bn q) (bn x)) Qfg ((List.range k).reverse.map fun i : Nat => ((i : Int), (l.map bn).getD i 0#64)) (bn (Hd (l.drop k) x % q)) = some (bn (Hd l x % q))
  | 0, _ => by rw [List.drop_zero]; rfl
  | k + 1, hk => by
    have hkl : k < l.length := by omega
    rw [List.range_succ, List.reverse_append, List.map_append, show ([k].reverse.map fun i : Nat => ((i : Int), (l.map bn).getD i 0#64)) = [((k : Int), bn l[k])] from by simp [List.getD, hkl], List.singleton_append, Cf]
    simp only [Qbs]
    have hc := hl _ (List.getElem_mem hkl)
    have hm := Nat.mod_lt (Hd (l.drop (k + 1)) x) (show 0 < q by omega)
    have hm2 := Nat.mod_lt (Hd (l.drop (k + 1)) x % q * x) (show 0 < q by omega)
    rw [Qn0 hq hq2 hm hx, bind_some, Uo, Yi (by omega) (by omega) (by omega), bind_some]
    have he : (Hd (l.drop (k + 1)) x % q * x % q + l[k]) % q = Hd (l.drop k) x % q := by
      rw [List.drop_eq_getElem_cons hkl, show Hd (l[k] :: l.drop (k + 1)) x = l[k] + x * Hd (l.drop (k + 1)) x from rfl, Nat.mod_mul_mod, Nat.mod_add_mod, Nat.add_comm, Nat.mul_comm]
    rw [he]
    exact Qp2 hq hq2 hx l hl k (by omega)
theorem Qvz {q x : Nat} (hq : 2 ≤ q) (hq2 : q ≤ 1048575) (hx : x < q) (l : List Nat) (hl : ∀ c ∈ l, c < q) (hlen : l.length < 4611686018427387904) : Qff (l.map bn) (bn q) (bn x) = some (bn (Hd l x % q)) := by
  unfold Qff Qjv Qju
  rw [bind_some, Xu (by rw [List.length_map]; omega) (by rw [List.length_map]; omega), Qp3 _ (by rw [List.length_map]; exact hlen) _ Xb (Nat.le_refl _) (Ki (by rw [List.length_map]; omega)), bind_some, List.length_map]
  have := Qp2 hq hq2 hx l hl l.length (Nat.le_refl _)
  rw [List.drop_length, show Hd [] x % q = 0 from by simp [Hd]] at this
  exact this
theorem Xht {q x : Nat} (hq : 2 ≤ q) (hq2 : q ≤ 1048575) (hx : x < q) (l : List Nat) (hl : ∀ c ∈ l, c < q) (hlen : l.length < 4611686018427387904) : Qg9 (bn q) (l.map bn) (bn x) = some (bn (Hd l x % q)) := by
  unfold Qg9
  refine Ce _ (fun j s => s = (bn (Hd (l.take j) x % q), bn (x ^ j % q), (j : Int))) l.length _ (by omega) ?_ ?_ ?_
  · rw [List.take_zero, Nat.pow_zero, Nat.mod_eq_of_lt (show 1 < q by omega), show Hd [] x % q = 0 from by simp [Hd]]; rfl
  · rintro j _ hj rfl
    refine ⟨_, rfl, fun rec => ?_⟩
    have hc := hl _ (List.getElem_mem hj)
    have hm := Nat.mod_lt (Hd (l.take j) x) (show 0 < q by omega)
    have hm2 := Nat.mod_lt (x ^ j) (show 0 < q by omega)
    have hp1 : l[j] * (x ^ j % q) ≤ 1048575 * 1048575 := Nat.mul_le_mul (by omega) (by omega)
    have hp2 : x ^ j % q * x ≤ 1048575 * 1048575 := Nat.mul_le_mul (by omega) (by omega)
    simp only [Qcf]
    rw [if_pos (by simp; omega), Kd (by simpa using hj), bind_some, List.getElem_map, Dn, Uo, Yi (by omega) (by omega) (by omega), bind_some, Dn, Yi (by omega) (by omega) (by omega), bind_some, Wp (by omega), Gi l j hj, Qrb, List.length_take, Nat.min_eq_left (by omega)]
    congr 2
    · rw [Nat.mod_add_mod, Nat.add_mod, Nat.mul_mod_mod, ← Nat.add_mod]
    · rw [Nat.mod_mul_mod, Nat.pow_succ]
  · rintro _ rfl rec
    simp only [Qcf]
    rw [if_neg (by simp), List.take_length]
end Go.Sx.Po

end
section
set_option linter.unusedVariables false
set_option linter.unusedSimpArgs false
set_option maxRecDepth 100000
noncomputable section
namespace Go.Sx.Ep
open Go Go.Sx
theorem Qdg (s : Qs) : Bn s = some (if Yp s then 0 else 30) ∧ Qft s = some (if Yp s then 0 else 30) := by
  unfold Bn Qft
  constructor
  · rw [Qog, bind_some]
    cases hv : Yp s <;> rfl
  · rw [Go.Sx.Mr, bind_some]
    cases hv : Yp s <;> rfl
theorem Qn8 (s : Qs) : ∃ r, Rf s = some r ∧ Qg4 s = some r := by
  unfold Rf Qg4
  rcases Po.Mr s with ⟨e1, e2⟩ | ⟨e1, e2, _⟩
  · rw [e1, e2]; exact ⟨_, rfl, rfl⟩
  · rw [e1, e2]; exact ⟨_, rfl, rfl⟩
theorem Xbw (k : BitVec 8) : (k < 1#8 ∨ (5 : Int) ≤ Xf k) ∨ ((Xf k = 1 ∨ Xf k = 2 ∨ Xf k = 3) ∧ 1#8 ≤ k ∧ k ≤ 3#8 ∧ k ≠ 4#8 ∧ ¬ k < 1#8 ∧ ¬ (5 : Int) ≤ Xf k) ∨ (k = 4#8 ∧ Xf k = 4 ∧ ¬ (Xf k = 1 ∨ Xf k = 2 ∨ Xf k = 3)) := by
  unfold Xf
  have h4 : k = 4#8 ↔ k.toNat = 4 := ⟨fun h => by rw [h]; rfl, fun h => BitVec.eq_of_toNat_eq h⟩
  rw [BitVec.lt_def, BitVec.le_def, BitVec.le_def, ne_eq, h4]
  have e1 : (1#8).toNat = 1 := rfl
  have e3 : (3#8).toNat = 3 := rfl
  rw [e1, e3]; omega
theorem Qiq (s : Qs) : ∃ r, Bs s = some r ∧ Ip s = some r ∧ ((s.Kind < 1#8 ∨ (5 : Int) ≤ Xf s.Kind) ∧ r = 2 ∨ ((Xf s.Kind = 1 ∨ Xf s.Kind = 2 ∨ Xf s.Kind = 3) ∧ Bn s = some r ∧ s.Kind ≠ 4#8) ∨ (s.Kind = 4#8 ∧ Rf s = some r)) := by
  unfold Bs Ip
  rcases Xbw s.Kind with h | ⟨h1, h2, h3, h4, h5, h6⟩ | ⟨h1, h2, h3⟩
  · refine ⟨2, ?_, ?_, .inl ⟨h, rfl⟩⟩
    · rcases h with h | h
      · rw [if_pos h]; rfl
      · by_cases h0 : s.Kind < 1#8
        · rw [if_pos h0]; rfl
        · rw [if_neg h0, decide_eq_true h]; rfl
    · have hk : ¬ (1#8 ≤ s.Kind ∧ s.Kind ≤ 3#8) ∧ s.Kind ≠ 4#8 := by
        have h4 : s.Kind = 4#8 ↔ s.Kind.toNat = 4 := ⟨fun h => by rw [h]; rfl, fun h => BitVec.eq_of_toNat_eq h⟩
        unfold Xf at h
        rw [BitVec.lt_def] at h
        rw [BitVec.le_def, BitVec.le_def, ne_eq, h4]
        have e1 : (1#8).toNat = 1 := rfl
        have e3 : (3#8).toNat = 3 := rfl
        rw [e1] at h; rw [e1, e3]; omega
      have hj : Mk s false = some 2 := by unfold Mk; rw [cond_false, if_neg hk.2]
      by_cases h1 : 1#8 ≤ s.Kind
      · rw [if_pos h1, decide_eq_false (fun h => hk.1 ⟨h1, h⟩), hj]
      · rw [if_neg h1, hj]
  · rw [if_neg h5, if_pos h2, decide_eq_false h6, decide_eq_true h3]
    unfold Ly Mk
    rw [cond_false, cond_true, if_pos h1, (Qdg s).1, (Qdg s).2]
    exact ⟨_, rfl, rfl, .inr (.inl ⟨h1, rfl, h4⟩)⟩
  · obtain ⟨r, e1, e2⟩ := Qn8 s
    have a1 : ¬ s.Kind < 1#8 := by rw [h1]; decide
    have a2 : 1#8 ≤ s.Kind := by rw [h1]; decide
    have a3 : ¬ s.Kind ≤ 3#8 := by rw [h1]; decide
    have a4 : ¬ (5 : Int) ≤ Xf s.Kind := by rw [h1]; decide
    unfold Ly Mk
    rw [if_neg a1, if_pos a2, decide_eq_false a4, decide_eq_false a3, cond_false, cond_false, if_neg h3, if_pos h2, if_pos h1, e1, e2]
    exact ⟨_, rfl, rfl, .inr (.inr ⟨h1, rfl⟩)⟩
theorem Dz {τ R : Type} (F : (τ → Option R) → τ → Option R) (I : Nat → τ → Prop) (n : Nat) (r : Option R) (hn : n < 9223372036854775808) {s : τ} (h0 : I 0 s) (hs : ∀ j s, j < n → I j s → ∃ s', I (j + 1) s' ∧ ∀ rec, F rec s = rec s') (he : ∀ s, I n s → ∀ rec, F rec s = r) : Qr F Xb s = r :=
  Qii F I n r hs he n 0 Xb s (by omega) (Ki hn) h0
theorem Xg6 (p : Qq) (hl : p.Labels.length < 4611686018427387904) : Qgg p p = some true := by
  unfold Qgg Qcn
  rw [if_neg (by simp), if_neg (by simp), decide_eq_false (by simp), cond_false]
  refine Dz _ (fun j x => x = (j : Int)) p.Labels.length _ (by omega) rfl ?_ ?_
  · rintro j _ hj rfl
    refine ⟨_, rfl, fun rec => ?_⟩
    simp only [Qco]
    rw [if_pos (by omega), Kd hj, bind_some, bind_some, if_neg (by simp), Wp (by omega)]
  · rintro _ rfl rec
    simp only [Qco]
    rw [if_neg (by omega)]
theorem Qne (root : W2) (s : Qs) (u : Int) : ∃ r, Qf9 root s u = some r ∧ Qce root s u = some r ∧ r.1.Labels = [] := by
  unfold Qf9 Qce
  rcases Po.Mr s with ⟨e1, e2⟩ | ⟨e1, e2, d, t, p, q, g, h⟩
  · rw [e1, e2]; exact ⟨_, rfl, rfl, rfl⟩
  · have h64 := Po.Cs h.d6
    obtain ⟨q1, q2⟩ := h.qb
    rw [e1, e2, bind_some, bind_some]
    simp only [Bool.not_true, cond_false]
    unfold Qfa Qg7
    by_cases hn : u < 0
    · rw [if_pos hn, if_pos hn]; exact ⟨_, rfl, rfl, rfl⟩
    · rw [if_neg hn, if_neg hn, h.depth, Po.Qgv, bind_some, Po.Qfk h.d6, bind_some, Po.Qjs h.d6]
      by_cases hg : ((2 ^ d : Nat) : Int) ≤ u
      · rw [decide_eq_true hg]; exact ⟨_, rfl, rfl, rfl⟩
      · rw [decide_eq_false hg, cond_false, cond_false]
        obtain ⟨n, rfl⟩ : ∃ n : Nat, u = (n : Int) := ⟨u.toNat, by omega⟩
        unfold Qji
        have hb := h.big
        have hcl : (Po.Up root q t).length = t + 1 := by simp [Po.Up]
        have ht := h.t8
        rw [Po.Xgb h, Po.Qo8 h, bind_some, bind_some, h.grp, Po.Qd5, show (1#64) = Po.bn 1 from rfl, Po.Uo]
        simp only
        rw [Po.Qvz q1 q2 (by omega) _ (Po.Qpl (by omega)) (by omega), Po.Xht q1 q2 (by omega) _ (Po.Qpl (by omega)) (by omega), bind_some, bind_some]
        exact ⟨_, rfl, rfl, rfl⟩
theorem Xga (root : W2) (s : Qs) (u : Int) : ∃ r, Qed root s u = some r ∧ Qgi root s u = some r ∧ r.1.Labels.length ≤ 100 := by
  obtain ⟨e, h1, h2, h3⟩ := Qiq s
  unfold Qgi
  rw [h2, bind_some]
  unfold Bs at h1
  unfold Qed
  have hz : (⟨0, [], ⟨0#64, 0#64⟩⟩ : Qq).Labels.length ≤ 100 := by simp
  have key : ∀ b, Ly s b = some e → ∃ r, Qas root s u b = some r ∧ (if e ≠ 0 then some (⟨0, [], ⟨0#64, 0#64⟩⟩, e) else if s.Kind = 4#8 then Option.bind (Qce root s u) fun x2 => some (x2.1, x2.2) else Option.bind (Qcb root s u) fun x3 => some (x3.1, x3.2)) = some r ∧ r.1.Labels.length ≤ 100 := fun b hb => by
    unfold Ly at hb
    unfold Qas
    cases b with
    | true =>
      rw [cond_true] at hb ⊢
      have : e = 2 := (Option.some.inj hb).symm
      subst this
      exact ⟨_, rfl, if_pos (by decide), hz⟩
    | false =>
      rw [cond_false] at hb ⊢
      by_cases k1 : Xf s.Kind = 1 ∨ Xf s.Kind = 2 ∨ Xf s.Kind = 3
      · rw [if_pos k1] at hb ⊢
        have k4 : s.Kind ≠ 4#8 := fun h => by rw [h] at k1; revert k1; decide
        obtain ⟨c1, c2⟩ := Qdg s
        rw [c1, bind_some] at hb ⊢
        have he := Option.some.inj hb
        rw [he]
        by_cases h0 : e ≠ 0
        · rw [if_pos h0, if_pos h0]; exact ⟨_, rfl, rfl, hz⟩
        · obtain ⟨q1, q2, q3⟩ := Qvs root s u
          rw [if_neg h0, if_neg h0, if_neg k4, q1, q2]; exact ⟨_, rfl, rfl, q3⟩
      · rw [if_neg k1] at hb ⊢
        by_cases k4 : Xf s.Kind = 4
        · rw [if_pos k4] at hb ⊢
          have k4' : s.Kind = 4#8 := Qk3 (by rw [k4]; rfl)
          obtain ⟨r, c1, c2⟩ := Qn8 s
          rw [c1, bind_some] at hb ⊢
          have he := Option.some.inj hb
          rw [he]
          by_cases h0 : e ≠ 0
          · rw [if_pos h0, if_pos h0]; exact ⟨_, rfl, rfl, hz⟩
          · obtain ⟨q, q1, q2, q3⟩ := Qne root s u
            rw [if_neg h0, if_neg h0, if_pos k4', q1, q2]; exact ⟨_, rfl, rfl, by rw [q3]; simp⟩
        · rw [if_neg k4] at hb; cases hb
  by_cases h0 : s.Kind < 1#8
  · rw [if_pos h0] at h1 ⊢; exact key _ h1
  · rw [if_neg h0] at h1 ⊢; exact key _ h1
end Go.Sx.Ep

end
