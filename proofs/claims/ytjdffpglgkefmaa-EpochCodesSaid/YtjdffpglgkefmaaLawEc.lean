/- EpochCodes, plainly: packets and their bytes are the specification's. -/
import Derived.Test.YtjdffpglgkefmaaEcM
import Derived.Test.YtjdffpglgkefmaaOpnEc
import Derived.Test.YtjdffpglgkefmaaPkc
set_option linter.unusedVariables false
set_option linter.unusedSimpArgs false
set_option maxRecDepth 100000
namespace Go.Sx
open Go Go.Sx.Ep
theorem samH (p : THeader) (h1 : p.Items.length < 4611686018427387904) (h2 : p.Points.length < 4611686018427387904) : ref05_SameHeader p p = some true := by
  unfold ref05_SameHeader
  simp only [ne_eq, not_true_eq_false, if_false, decide_false]
  unfold ref05_SameHeader_J1
  rw [cond_false]
  refine goE _ (fun j x => x = (j : Int)) p.Items.length _ (by omega) rfl ?_ ?_
  · rintro j _ hj rfl
    refine ⟨_, rfl, fun rec => ?_⟩
    simp only [ref05_SameHeader_L2]
    rw [if_pos (by omega), getI_some hj, bind_some, bind_some, if_neg (by simp), w64_nat (by omega)]
  · rintro _ rfl rec
    simp only [ref05_SameHeader_L2]
    rw [if_neg (by omega)]
    refine goE _ (fun j x => x = (j : Int)) p.Points.length _ (by omega) rfl ?_ ?_
    · rintro j _ hj rfl
      refine ⟨_, rfl, fun rec => ?_⟩
      simp only [ref05_SameHeader_L3]
      rw [if_pos (by omega), getI_some hj, bind_some, bind_some, if_neg (by simp), w64_nat (by omega)]
    · rintro _ rfl rec
      simp only [ref05_SameHeader_L3]
      rw [if_neg (by omega)]
theorem samP (p : TPacket) (h1 : p.Head.Items.length < 4611686018427387904) (h2 : p.Head.Points.length < 4611686018427387904) : ref05_SamePacket p p = some true := by
  unfold ref05_SamePacket
  rw [if_pos rfl, if_pos rfl, samH _ h1 h2, bind_some, cond_true, if_pos rfl, if_pos rfl, if_pos rfl, decide_eq_true rfl]
theorem decP_sm (b : By) : (decP b).1.Head.Items.length ≤ 64 ∧ (decP b).1.Head.Points.length ≤ 8 ∧ (decP b).1.Data.length ≤ 256 := by
  rcases dec_or b with h | h
  · rw [h]; simp [zP]
  · obtain ⟨hv, _⟩ := dec_back h
    rcases hv with ⟨_, _, _, _, c4, c5, c6, _⟩ | ⟨_, _, _, c3, b1, b2, _⟩
    · rw [c4]; exact ⟨c5, c6, by simp⟩
    · rw [b1, b2]; exact ⟨by simp, by simp, c3⟩
theorem law05_EpochCodes_ok (p : TPacket) (b : By) (hp : p.ok) (hb : b.length * 1 ≤ 140737488351232) : law05_EpochCodes p b = some true := by
  unfold law05_EpochCodes
  have hg : ref05_Great (TSecret.mk 0 [] (TPoint.mk 0#64 0#64)) p = some (decide (¬ (p.Head.Items.length ≤ 100 ∧ p.Head.Points.length ≤ 50 ∧ p.Data.length ≤ 1000))) := by
    unfold ref05_Great
    rw [if_neg (by simp)]
    by_cases h1 : (100 : Int) < (p.Head.Items.length : Int)
    · rw [if_pos h1, decide_eq_true (by omega)]
    · rw [if_neg h1]
      by_cases h2 : (50 : Int) < (p.Head.Points.length : Int)
      · rw [if_pos h2, decide_eq_true (by omega)]
      · rw [if_neg h2]
        congr 1; apply Bool.eq_iff_iff.2; rw [decide_eq_true_iff, decide_eq_true_iff]; omega
  rw [hg, bind_some]
  unfold law05_EpochCodes_J1
  by_cases hs : p.Head.Items.length ≤ 100 ∧ p.Head.Points.length ≤ 50 ∧ p.Data.length ≤ 1000
  · rw [decide_eq_false (by simpa using hs), cond_false]
    by_cases hl : (3000 : Int) < (b.length : Int)
    · rw [decide_eq_true hl, cond_true]
    · rw [decide_eq_false hl, cond_false]
      have hsm : Sm p := ⟨by omega, by omega, by omega⟩
      have hd := decP_sm b
      rw [appG_some (by simp; omega), bind_some, List.nil_append, enc_eq p hsm, bind_some, renc_eq p hsm, bind_some, dec_eq, bind_some, dec_same b (by omega), bind_some, chk_eq p (by omega), bind_some]
      unfold ref05_CheckPacket
      rw [rchk_eq p (by omega), bind_some]
      have e1 : (bif (!decide (VP p)) then (some (8 : Int)) else some 0) = some (if VP p then 0 else 8) := by
        by_cases hv : VP p <;> simp [hv]
      rw [e1, bind_some, if_pos rfl, if_pos rfl, if_pos rfl, samP _ (by omega) (by omega), bind_some, cond_true, decide_eq_true rfl]
      unfold law05_EpochCodes_J2
      have hbl : (bts p).length ≤ 300000 := by have := bdy_len p hsm; unfold bts; rw [List.length_append, kby_len]; omega
      have hx : (if VP p then (bts p, (0 : Int)) else ([], 8)).1.length ≤ 300000 := by split <;> simp <;> omega
      refine goE _ (fun j x => ∃ l : By, l.length = (decP b).1.Data.length ∧ x = ((j : Int), l)) (decP b).1.Data.length _ (by omega) ⟨_, rfl, rfl⟩ ?_ ?_
      · rintro j _ hj ⟨l, hll, rfl⟩
        refine ⟨_, ⟨l.set ((j : Int)).toNat (l[j]'(by omega) + 1#8), ?_, rfl⟩, fun rec => ?_⟩
        · rw [List.length_set]; exact hll
        · simp only [law05_EpochCodes_L3]
          rw [if_pos (by omega), getI_some (by omega), bind_some, bind_some, w64_nat (by omega)]
      · rintro _ ⟨l, hll, rfl⟩ rec
        simp only [law05_EpochCodes_L3]
        rw [if_neg (by omega)]
        refine goE _ (fun j x => ∃ l : By, l.length = (if VP p then (bts p, (0 : Int)) else ([], 8)).1.length ∧ x = (l, (j : Int))) (if VP p then (bts p, (0 : Int)) else ([], 8)).1.length _ (by omega) ⟨_, rfl, rfl⟩ ?_ ?_
        · rintro j _ hj ⟨l, hll, rfl⟩
          refine ⟨_, ⟨l.set ((j : Int)).toNat (l[j]'(by omega) + 1#8), ?_, rfl⟩, fun rec => ?_⟩
          · rw [List.length_set]; exact hll
          · simp only [law05_EpochCodes_L4]
            rw [if_pos (by omega), getI_some (by omega), bind_some, bind_some, w64_nat (by omega)]
        · rintro _ ⟨l, hll, rfl⟩ rec
          simp only [law05_EpochCodes_L4]
          rw [if_neg (by omega), renc_eq p hsm, bind_some, cond_true]; simp
  · rw [decide_eq_true (by simpa using hs), cond_true]
    rfl
end Go.Sx
