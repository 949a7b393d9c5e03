/- merged by mg.py: Fk Sv -/
import Derived.Test.YtecempahccgijaaPq
section
/- Keys of subsets, plainly: what a secret leads to is the key of the subset; what is decrypted is what was encrypted. -/
set_option linter.unusedVariables false
set_option linter.unusedSimpArgs false
set_option maxRecDepth 100000
namespace Go.Sx
open Go

theorem rotl_rotl (x : BitVec 64) (n m : Nat) (h : n + m = 64) (hn : 0 < n) (hm : 0 < m) : rotl (rotl x n) m = x := by
  unfold rotl
  apply BitVec.eq_of_getLsbD_eq
  intro i hi
  simp only [BitVec.getLsbD_or, BitVec.getLsbD_shiftLeft, BitVec.getLsbD_ushiftRight]
  by_cases h1 : i < m
  · have h2 : ¬ (64 - m + i < n) := by omega
    have h3 : 64 - m + i < 64 := by omega
    have h4 : 64 - m + i - n = i := by omega
    have h5 : 64 ≤ 64 - n + (64 - m + i) := by omega
    rw [h4, BitVec.getLsbD_of_ge x _ h5]
    simp [h1, hi, h2, h3]
  · have h2 : i - m < n := by omega
    have h3 : 64 - n + (i - m) = i := by omega
    have h4 : 64 ≤ 64 - m + i := by omega
    have h6 : ¬ 64 - m + i < 64 := by omega
    have h7 : 64 ≤ 64 - n + (64 - m + i) := by omega
    rw [h3, BitVec.getLsbD_of_ge x _ h7]
    simp [h1, hi, h2, h6]
theorem rndB_rnd (p : W2) (k : BitVec 64) : rndB (rnd p k) k = p := by
  obtain ⟨a, b⟩ := p
  unfold rndB rnd
  simp only
  have h1 : ∀ x y : BitVec 64, x ^^^ (y ^^^ x) = y := fun x y => by rw [BitVec.xor_comm y x, ← BitVec.xor_assoc, BitVec.xor_self, BitVec.zero_xor]
  have h2 : ∀ x y : BitVec 64, (x ^^^ y) ^^^ y = x := fun x y => by rw [BitVec.xor_assoc, BitVec.xor_self, BitVec.xor_zero]
  rw [h1, h2, rotl_rotl b 3 61 (by omega) (by omega) (by omega), BitVec.add_sub_cancel, rotl_rotl a 56 8 (by omega) (by omega) (by omega)]
theorem undo (K : Nat → BitVec 64) : ∀ (n : Nat) (b : W2), (List.range n).foldl (fun p i => rndB p (K (n - 1 - i))) ((List.range n).foldl (fun p i => rnd p (K i)) b) = b
  | 0, b => rfl
  | n + 1, b => by
    rw [show (List.range (n + 1)).foldl (fun p i => rnd p (K i)) b = rnd ((List.range n).foldl (fun p i => rnd p (K i)) b) (K n) from by rw [List.range_succ, List.foldl_append]; rfl]
    rw [List.range_succ_eq_map, List.foldl_cons, show n + 1 - 1 - 0 = n from rfl, rndB_rnd, List.foldl_map]
    have := undo K n b
    rw [show (fun (p : W2) (i : Nat) => rndB p (K (n + 1 - 1 - i.succ))) = fun p i => rndB p (K (n - 1 - i)) from by funext p i; congr 2; omega]
    exact this
theorem decr_encr (k b : W2) : decr k (encr k b) = b := undo (fun i => (ks k i).2) 32 b
/-- the key of a subset -/
def keyS (root : W2) (k : BitVec 8) (n m : Nat) : W2 :=
  if k = 1#8 then drv root (un8 30#8) (wd (n : Int)) else if m = 0 then drv root (un8 34#8) 0#64 else drv ((pathN m (Nat.log2 m - Nat.log2 n)).foldl stp (drv root (un8 30#8) (wd (n : Int)))) (un8 33#8) 0#64
section
variable {s : TScheme} {d : Nat}
theorem pkey_eq (h6 : d ≤ 6) {n m : Nat} (hs : subP s.Kind d n m = true) (root : W2) : cover_tree_key (treeI s) root ⟨(n : Int), (m : Int)⟩ = some (keyS root s.Kind n m) := by
  obtain ⟨hn1, hn2, hm2, hc⟩ := subP_bd h6 hs
  unfold cover_tree_key keyS cover_nodeKey cover_middle
  rw [show (treeI s).kind = s.Kind from rfl]
  by_cases hk : s.Kind = 1#8
  · rw [if_pos hk, if_pos hk]; rfl
  · rw [if_neg hk, if_neg hk]
    by_cases hm : m = 0
    · rw [if_pos (by simp only; omega), if_pos hm]
    · rw [if_neg (by simp only; omega), if_neg hm]
      obtain ⟨hb, hne⟩ : belowB m n = true ∧ m ≠ n := by
        rcases hc with h | h | h
        · exact absurd h hk
        · exact absurd h hm
        · exact h
      obtain ⟨t, t1, t2, t3⟩ := below_split (by omega) hn1 hb hne
      have := le_log t3 hm2
      simp only
      rw [bind_some, t1]
      have hd := descend_eq (w := m) (k := t + 1) (drv root (un8 30#8) (wd (n : Int))) (by omega) t3 (by omega)
      rw [← t2] at hd
      rw [hd, bind_some, bind_some]
theorem pfind_eq (hv : vldB s = true) (hd : s.Depth = (d : Int)) (h6 : d ≤ 6) {u n m : Nat} (hu : u < 2 ^ d) (hs : subP s.Kind d n m = true) (root : W2) (ui : Int) (pt : TPoint) :
    cover_tree_find (treeI s) (TSecret.mk ui (secN root s.Kind d u) pt) ⟨(n : Int), (m : Int)⟩ = some (if memB (2 ^ d + u) n m then (keyS root s.Kind n m, true) else (k0, false)) := by
  obtain ⟨e1, e2, e3, e4⟩ := labels_eq hv hd h6 hu
  obtain ⟨hn1, hn2, hm2, hc⟩ := subP_bd h6 hs
  have hlen : (secN root s.Kind d u).length = (labN s.Kind d u).length := by simp [secN]
  unfold cover_tree_find
  have p1 := fix_itL (labN s.Kind d u) (cover_tree_find_L1 (treeI s) (TSecret.mk ui (secN root s.Kind d u) pt) ⟨(n : Int), (m : Int)⟩) (fun j (_ : Unit) => (j : Int)) (fun a nx s' => bif ldN s.Kind n m a then some (keyS root s.Kind n m, true) else nx s') (fun _ => some (k0, false))
    (fun rec j hj _ => by
      simp only [cover_tree_find_L1]
      have hj' : j < (secN root s.Kind d u).length := by omega
      have hok := e4 _ (List.getElem_mem hj)
      have ham := List.getElem_mem hj
      rw [if_pos (by omega), getI_some hj', bind_some, show (secN root s.Kind d u)[j] = lbl root s.Kind (labN s.Kind d u)[j] from by simp [secN], w64_nat (by omega)]
      generalize (labN s.Kind d u)[j] = a at *
      rw [show lbl root s.Kind a = TLabel.mk (a.1 : Int) (a.2 : Int) (keyN root s.Kind a) from rfl, (leads_plain h6 hs ⟨hok.1.2.1, hok.1.2.2⟩ _).1, bind_some]
      cases hl : ldN s.Kind n m a with
      | false => rfl
      | true =>
        simp only [Bool.not_true, cond_false, cond_true]
        rw [show (treeI s).kind = s.Kind from rfl]
        unfold cover_tree_find_J2 keyS keyN
        unfold ldN at hl
        by_cases hk : s.Kind = 1#8
        · have h0 := lab1 hk a ham
          rw [if_pos (.inl hk), decide_eq_true_eq] at hl
          rw [if_pos hk, if_pos hk, cond_true]
          simp only
          rw [if_pos h0, if_pos hk, hl.1]
        · rw [if_neg hk, if_neg hk]
          by_cases hm : m = 0
          · rw [if_pos (.inr hm), decide_eq_true_eq] at hl
            rw [decide_eq_true (by omega), cond_true, if_pos hm]
            simp only
            rw [if_pos (by omega), if_neg hk]
          · rw [if_neg (by rw [not_or]; exact ⟨hk, hm⟩)] at hl
            simp only [Bool.and_eq_true, decide_eq_true_eq] at hl
            obtain ⟨⟨⟨ha1, ha2⟩, ha3⟩, ha4⟩ := hl
            rw [decide_eq_false (by omega), cond_false, if_neg hm]
            simp only
            rw [if_neg (by omega)]
            obtain ⟨i, i1, i2⟩ := below_split0 (by omega) ha4
            have hi6 := le_log i2 hm2
            have hdl := fun key => descend_eq (w := m) (k := i) key (by omega) i2 (by omega)
            rw [← i1] at hdl
            rw [hdl, bind_some]
            unfold cover_middle
            rw [bind_some]
            have hlg := log2_div m i i2
            rw [← i1] at hlg
            have hln := below_log ha2 ha3
            rw [show Nat.log2 m - Nat.log2 n = (Nat.log2 a.2 - Nat.log2 n) + i from by omega, path_app, ← i1, List.foldl_append, ha1, if_neg hk])
    (fun rec _ => by simp only [cover_tree_find_L1]; rw [if_neg (by omega)]) (f := FUEL) (fuel_lt (by omega)) ()
  rw [show ((0 : Nat) : Int) = 0 from rfl] at p1
  rw [p1, itL_find (ldN s.Kind n m) (fun _ _ => some (keyS root s.Kind n m, true)) _ _ _ _ (fun a _ nx s => rfl), led_mem h6 hu hs]
  unfold ledN
  cases (labN s.Kind d u).find? (ldN s.Kind n m) with
  | none => rfl
  | some a => rfl
theorem secP_eq (hv : vldB s = true) (hd : s.Depth = (d : Int)) {u : Nat} (hu : u < 2 ^ d) (root : W2) : secP root s (u : Int) = (TSecret.mk (u : Int) (secN root s.Kind d u) (TPoint.mk 0#64 0#64), 0) := by
  unfold secP
  rw [if_pos hv, hd, Int.toNat_natCast, if_pos (by omega), Int.toNat_natCast]
end
end Go.Sx

end
section
/- What Seal, Open and Work answer, plainly. -/
set_option linter.unusedVariables false
set_option linter.unusedSimpArgs false
set_option maxRecDepth 100000
namespace Go.Sx
open Go

theorem inj_len {α β : Type} (f : α → β) {l : List α} {m : List β} (hl : l.Nodup) (hf : ∀ a ∈ l, f a ∈ m) (hi : ∀ a ∈ l, ∀ b ∈ l, f a = f b → a = b) : l.length ≤ m.length := by
  have h1 : (l.map f).Nodup := by
    rw [List.Nodup, List.pairwise_map]
    exact hl.imp_of_mem fun ha hb h e => h (hi _ ha _ hb e)
  have h2 : l.map f ⊆ m := fun b hb => by
    obtain ⟨a, ha, rfl⟩ := List.mem_map.1 hb
    exact hf a ha
  have := h1.length_le_of_subset h2
  rwa [List.length_map] at this
theorem asc_nodup {l : List (Nat × Nat)} (h : Asc l) : l.Nodup := h.imp fun h e => by rw [e] at h; omega
/-- a cover has at most as many subsets as there are receivers -/
theorem covQ_len64 {d : Nat} {R : List Nat} (h : Rcv d R) (k : BitVec 8) : (covQ k d R).length ≤ 2 ^ d := by
  have hm : ∀ y : Nat × Nat, ∃ u, y ∈ covQ k d R → u < 2 ^ d ∧ memB (2 ^ d + u) y.1 y.2 = true := fun y => by
    by_cases hy : y ∈ covQ k d R
    · obtain ⟨u, h1, h2⟩ := sub_mem h.1 (covQ_sub h hy); exact ⟨u, fun _ => ⟨h1, h2⟩⟩
    · exact ⟨0, fun h => absurd h hy⟩
  let f := fun y => Classical.choose (hm y)
  have hf : ∀ y ∈ covQ k d R, f y < 2 ^ d ∧ memB (2 ^ d + f y) y.1 y.2 = true := fun y hy => Classical.choose_spec (hm y) hy
  have := inj_len f (m := List.range (2 ^ d)) (asc_nodup covQ_asc) (fun y hy => List.mem_range.2 (hf y hy).1) (fun a ha b hb e => covQ_uniq h ha hb (hf a ha).1 (hf a ha).2 (by rw [e]; exact (hf b hb).2))
  rwa [List.length_range] at this
section
variable {s : TScheme} {d : Nat}
/-- the items of a sealed header -/
def itmS (root ses : W2) (k : BitVec 8) (y : Nat × Nat) : TItem := TItem.mk (mkS y) (encr (keyS root k y.1 y.2) ses)
def hdrS (root ses : W2) (k : BitVec 8) (l : List (Nat × Nat)) : THeader := THeader.mk (l.map (itmS root ses k)) 0#64 [] k0 (drv ses (un8 53#8) 0#64)
theorem check_eq (s : TScheme) : cover_Check s = some (if vldB s then 0 else 30) := by
  unfold cover_Check
  rw [treeOf_eq, bind_some]
  cases vldB s <;> rfl
/-- entering with subsets -/
theorem enter_all (hv : vldB s = true) (hd : s.Depth = (d : Int)) (h6 : d ≤ 6) (l : List (Nat × Nat)) (hl : ∀ y ∈ l, subP s.Kind d y.1 y.2 = true) (hlen : l.length < 4611686018427387904) : cover_enter s (l.map mkS) = some (treeI s, 0) := by
  unfold cover_enter
  rw [treeOf_eq, bind_some, if_pos hv]
  simp only [Bool.not_true, cond_false]
  refine fix_go _ (fun j x => x = (j : Int)) l.length _ (by omega) rfl ?_ ?_
  · rintro j _ hj rfl
    refine ⟨_, rfl, fun rec => ?_⟩
    simp only [cover_enter_L1]
    rw [if_pos (by simp; omega), getI_some (by simpa using hj), bind_some, List.getElem_map, show mkS l[j] = ⟨(l[j].1 : Int), (l[j].2 : Int)⟩ from rfl, (sub_true hv hd h6 (hl _ (List.getElem_mem hj))).2.2.1, bind_some, w64_nat (by omega)]; rfl
  · rintro _ rfl rec
    simp only [cover_enter_L1]
    rw [if_neg (by simp)]
theorem pseal_eq (hv : vldB s = true) (hd : s.Depth = (d : Int)) (h6 : d ≤ 6) (l : List (Nat × Nat)) (hl : ∀ y ∈ l, subP s.Kind d y.1 y.2 = true) (hlen : l.length ≤ 64) (root ses : W2) : cover_Seal root s (l.map mkS) ses = some (hdrS root ses s.Kind l, 0) := by
  unfold cover_Seal
  rw [check_eq, bind_some, if_pos hv, if_neg (by simp), if_neg (by simp; omega), enter_all hv hd h6 l hl (by omega), bind_some, if_neg (by simp)]
  refine fix_go _ (fun j x => x = ((j : Int), (l.take j).map (itmS root ses s.Kind))) l.length _ (by omega) (by simp) ?_ ?_
  · rintro j _ hj rfl
    refine ⟨_, rfl, fun rec => ?_⟩
    simp only [cover_Seal_L1]
    rw [if_pos (by simp; omega), getI_some (by simpa using hj), bind_some, List.getElem_map, show mkS l[j] = ⟨(l[j].1 : Int), (l[j].2 : Int)⟩ from rfl, pkey_eq h6 (hl _ (List.getElem_mem hj)), bind_some, appG_some (by simp; omega), bind_some, w64_nat (by omega), take_snoc l j hj, List.map_append]; rfl
  · rintro _ rfl rec
    simp only [cover_Seal_L1]
    rw [if_neg (by simp), List.take_length]; rfl
theorem popen_eq (hv : vldB s = true) (hd : s.Depth = (d : Int)) (h6 : d ≤ 6) {u : Nat} (hu : u < 2 ^ d) (l : List (Nat × Nat)) (hl : ∀ y ∈ l, subP s.Kind d y.1 y.2 = true) (hlen : l.length ≤ 64) (root ses : W2) (ui : Int) (pt : TPoint) :
    cover_Open s (TSecret.mk ui (secN root s.Kind d u) pt) (hdrS root ses s.Kind l) = some (if l.any (fun y => memB (2 ^ d + u) y.1 y.2) then (ses, 0) else (k0, 6)) := by
  unfold cover_Open
  rw [enter0, bind_some, if_pos hv, if_neg (by simp), if_neg (by simp [hdrS]; omega), if_neg (by simp [hdrS]), if_neg (by simp [hdrS]), if_neg (by simp [hdrS])]
  have hc : slices_ContainsFunc_9968_cover_Open_1 (hdrS root ses s.Kind l).Items (treeI s) = some false := by
    rw [show (hdrS root ses s.Kind l).Items = l.map (itmS root ses s.Kind) from rfl]
    unfold slices_ContainsFunc_9968_cover_Open_1 slices_IndexFunc_c205_cover_Open_1
    have : fixN (slices_IndexFunc_c205_cover_Open_1_L1 (l.map (itmS root ses s.Kind)) (treeI s)) FUEL 0 = some (-1) := by
      refine fix_go _ (fun j x => x = (j : Int)) l.length _ (by omega) rfl ?_ ?_
      · rintro j _ hj rfl
        refine ⟨_, rfl, fun rec => ?_⟩
        simp only [slices_IndexFunc_c205_cover_Open_1_L1]
        rw [if_pos (by simp; omega), getI_some (by simpa using hj), bind_some, List.getElem_map]
        unfold cover_Open_1
        rw [show (itmS root ses s.Kind l[j]).Subset = ⟨(l[j].1 : Int), (l[j].2 : Int)⟩ from rfl, (sub_true hv hd h6 (hl _ (List.getElem_mem hj))).2.2.1, bind_some, bind_some, w64_nat (by omega)]; rfl
      · rintro _ rfl rec
        simp only [slices_IndexFunc_c205_cover_Open_1_L1]
        rw [if_neg (by simp)]
    rw [this, bind_some]; rfl
  simp only
  rw [hc, bind_some]
  unfold cover_Open_J1
  rw [cond_false]
  have p1 := fix_itL l (cover_Open_L2 (TSecret.mk ui (secN root s.Kind d u) pt) (hdrS root ses s.Kind l) (treeI s, 0)) (fun j (_ : Unit) => (j : Int)) (fun y nx s' => bif memB (2 ^ d + u) y.1 y.2 then some (ses, 0) else nx s') (fun _ => some (k0, 6))
    (fun rec j hj _ => by
      simp only [cover_Open_L2]
      rw [if_pos (by simp [hdrS]; omega), show getI (hdrS root ses s.Kind l).Items (j : Int) = some (itmS root ses s.Kind l[j]) from by unfold hdrS; rw [getI_some (by simpa using hj), List.getElem_map], bind_some, show (itmS root ses s.Kind l[j]).Subset = ⟨(l[j].1 : Int), (l[j].2 : Int)⟩ from rfl, pfind_eq hv hd h6 hu (hl _ (List.getElem_mem hj)), bind_some, w64_nat (by omega)]
      cases memB (2 ^ d + u) l[j].1 l[j].2 with
      | false => rfl
      | true =>
        simp only [if_true, cond_true]
        rw [show (itmS root ses s.Kind l[j]).Box = encr (keyS root s.Kind l[j].1 l[j].2) ses from rfl, decr_encr, if_pos (show drv ses (un8 53#8) 0#64 = (hdrS root ses s.Kind l).Check from rfl)])
    (fun rec _ => by simp only [cover_Open_L2]; rw [if_neg (by simp [hdrS])]) (f := FUEL) (fuel_lt (by omega)) ()
  rw [show ((0 : Nat) : Int) = 0 from rfl] at p1
  rw [p1, itL_find (fun y : Nat × Nat => memB (2 ^ d + u) y.1 y.2) (fun _ _ => some (ses, 0)) _ _ _ _ (fun a _ nx s => rfl)]
  cases hf : l.find? (fun y : Nat × Nat => memB (2 ^ d + u) y.1 y.2) with
  | none => rw [List.any_eq_false.2 (fun a ha => (List.find?_eq_none.1 hf) a ha)]; rfl
  | some a => rw [List.any_eq_true.2 ⟨a, List.mem_of_find?_eq_some hf, List.find?_some hf⟩]; rfl
theorem pwork_val (hv : vldB s = true) (hd : s.Depth = (d : Int)) (h6 : d ≤ 6) {u : Nat} (hu : u < 2 ^ d) (x : TSubset) :
    (cover_tree_subset (treeI s) x = some false → cover_Work s (u : Int) x = some (0, 31)) ∧ (∀ n m : Nat, x = ⟨(n : Int), (m : Int)⟩ → subP s.Kind d n m = true → cover_Work s (u : Int) x = some (wrkN s d u n m)) := by
  have ht : treeI s = ⟨s.Kind, (d : Int), (strd d : Int)⟩ := by unfold treeI; rw [hd, Int.toNat_natCast]
  have e0 : cover_tree_receiver (treeI s) (u : Int) = some (decide (0 ≤ (u : Int) ∧ (u : Int) < ((2 ^ d : Nat) : Int))) := by rw [ht]; exact receiver_eq h6
  rw [decide_eq_true (by omega)] at e0
  unfold cover_Work
  rw [enter0, bind_some, if_pos hv, if_neg (by simp), e0, bind_some]
  simp only [Bool.not_true, cond_false]
  refine ⟨fun h => by rw [h, bind_some]; rfl, ?_⟩
  rintro n m rfl hs
  obtain ⟨e1, e2, e3, e4⟩ := labels_eq hv hd h6 hu
  have e1' : cover_tree_labels_1 (treeI s) (u : Int) = some (labI s.Kind d u) := by rw [ht]; exact e1
  rw [(sub_true hv hd h6 hs).2.2.1, bind_some]
  simp only [Bool.not_true, cond_false]
  unfold cover_tree_labels
  rw [bind_some]
  simp only
  rw [e1', bind_some, pwork_eq hv hd h6 hu hs]
theorem wrk_bd (hv : vldB s = true) (hd : s.Depth = (d : Int)) (h6 : d ≤ 6) {u n m : Nat} (hu : u < 2 ^ d) (hs : subP s.Kind d n m = true) (hm : memB (2 ^ d + u) n m = true) : (wrkN s d u n m).2 = 0 ∧ 0 ≤ (wrkN s d u n m).1 ∧ (wrkN s d u n m).1 ≤ (d : Int) := by
  obtain ⟨e1, e2, e3, e4⟩ := labels_eq hv hd h6 hu
  rw [led_mem h6 hu hs] at hm
  unfold wrkN
  cases hl : ledN s d u n m with
  | none => rw [hl] at hm; cases hm
  | some a =>
    simp only
    have ham : a ∈ labN s.Kind d u := List.mem_of_find?_eq_some hl
    have hal : ldN s.Kind n m a = true := List.find?_some hl
    obtain ⟨⟨o1, o2, o3⟩, o4⟩ := e4 a ham
    by_cases h0 : a.2 = 0
    · rw [if_pos h0]; exact ⟨rfl, by simp, by simp⟩
    · rw [if_neg h0]
      rcases o4 with o4 | ⟨o4, o5⟩
      · exact absurd o4 h0
      · have hb : a.1 ≤ a.2 := by
          obtain ⟨t, _, t2⟩ := (below_iff (by omega)).1 o4
          rw [t2]; exact Nat.div_le_self _ _
        have hl1 : 1 ≤ Nat.log2 a.2 := (Nat.le_log2 (by omega)).2 (by omega)
        have hlm : Nat.log2 m ≤ d := by
          by_cases hm0 : m = 0
          · subst hm0; simp
          · unfold subP at hs
            rw [Bool.and_eq_true] at hs
            have h3 := hs.2
            by_cases hk : s.Kind = 1#8
            · rw [if_pos hk] at h3; exact absurd (of_decide_eq_true h3) hm0
            · rw [if_neg hk, if_neg hm0, Bool.and_eq_true, Bool.and_eq_true, decide_eq_true_eq] at h3
              exact node_log (by omega) h3.1.1.1
        have hd1 : 1 ≤ d := by
          by_cases hd0 : d = 0
          · exfalso
            subst hd0
            have hu0 : u = 0 := by omega
            have hlab : labN s.Kind 0 u = [(1, 0)] := by subst hu0; unfold labN; split <;> simp [pathN, labK]
            rw [hlab] at ham
            have := List.mem_singleton.1 ham
            rw [this] at h0; exact h0 rfl
          · omega
        refine ⟨rfl, ?_, ?_⟩ <;> simp only <;> omega
end
end Go.Sx

end
