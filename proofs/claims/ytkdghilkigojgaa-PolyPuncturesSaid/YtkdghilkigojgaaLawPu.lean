/- PolyPunctures on the mirrors: punctures and values are the document's. -/
import Derived.Test.YtkdghilkigojgaaOpnPu
import Derived.Test.YtkdghilkigojgaaPz3
set_option linter.unusedVariables false
set_option linter.unusedSimpArgs false
set_option maxRecDepth 100000
namespace Go.Sx
open Go Po

theorem Po.sameP_self (p : TPunctured) (hl : p.Labels.length < 4611686018427387904) : ref04_SamePunctured p p = some true := by
  unfold ref04_SamePunctured ref04_SamePunctured_J1
  rw [if_neg (by simp), decide_eq_false (by simp), cond_false]
  exact same_go p.Labels.length _ _ (by omega) (fun rec j hj => by simp only [ref04_SamePunctured_L2]; rw [if_pos (by omega), getI_some hj, bind_some, bind_some, if_neg (by simp), w64_nat (by omega)]) (fun rec => by simp only [ref04_SamePunctured_L2]; rw [if_neg (by omega)])
theorem Po.full_same (k : W2) (n : Int) : ∃ r, poly_Full k n = some r ∧ ref04_Full k n = some r ∧ r.1.Labels.length ≤ 1 := by
  unfold poly_Full ref04_Full poly_Full_J1 ref04_Full_J1
  split
  · exact ⟨_, rfl, rfl, by simp⟩
  · cases decide ((6 : Int) < n)
    · exact ⟨_, rfl, rfl, by simp⟩
    · exact ⟨_, rfl, rfl, by simp⟩
theorem Po.pun_same (p : TPunctured) (n : Int) (hl : p.Labels.length < 4611686018427387904) : ∃ c r v, poly_CheckPunctured p = some c ∧ ref04_CheckPunctured p = some c ∧ poly_Puncture p n = some r ∧ ref04_Puncture p n = some r ∧ r.1.Labels.length ≤ 128 ∧ poly_Evaluate p n = some v ∧ ref04_Evaluate p n = some v := by
  rcases punct_eq p hl with ⟨h1, h2⟩ | ⟨h1, h2, d, L, rfl, h6, h⟩
  · have hf : poly_find p n = some (0, 0, 8) := by unfold poly_find; rw [h1, bind_some, if_pos (by simp)]
    have ha : ref04_asked p n = some 8 := by unfold ref04_asked; rw [h2, bind_some]; rfl
    refine ⟨8, (⟨0, []⟩, 8), (k0, 8), h1, ?_, ?_, ?_, by simp, ?_, ?_⟩
    · unfold ref04_CheckPunctured; rw [h2, bind_some]; rfl
    · unfold poly_Puncture; rw [hf, bind_some, if_pos (by simp)]
    · unfold ref04_Puncture; rw [ha, bind_some, if_pos (by simp)]
    · unfold poly_Evaluate; rw [hf, bind_some, if_pos (by simp)]
    · unfold ref04_Evaluate; rw [ha, bind_some, if_pos (by simp)]
  · have hc2 : ref04_CheckPunctured ⟨(d : Int), L.map mkN⟩ = some 0 := by unfold ref04_CheckPunctured; rw [h2, bind_some]; rfl
    by_cases hn : 0 ≤ n ∧ n < ((2 ^ d : Nat) : Int)
    · obtain ⟨u, rfl⟩ : ∃ u : Nat, n = (u : Int) := ⟨n.toNat, by omega⟩
      have hu : u < 2 ^ d := by omega
      have hpp := Nat.two_pow_pos d
      have h128 := pow_le128 h6
      have hpw : 2 ^ (d + 1) = 2 * 2 ^ d := by rw [Nat.pow_succ, Nat.mul_comm]
      refine ⟨0, _, _, h1, hc2, ppun_eq h6 h h1 hu, rpun_eq h6 h h2 hu, ?_, peval_eq h6 h h1 hu, reval_eq h6 h h2 hu⟩
      simp only [List.length_map]
      exact srtd_len (pun_srtd h h6 (by omega) (by omega)) (pun_lt h h6 (by omega) (by omega))
    · have hf := find_out h6 h1 hn
      have ha := asked_eq h6 h2 n
      rw [if_neg hn] at ha
      refine ⟨0, (⟨0, []⟩, 2), (k0, 2), h1, hc2, ?_, ?_, by simp, ?_, ?_⟩
      · unfold poly_Puncture; rw [hf, bind_some, if_pos (by simp)]
      · unfold ref04_Puncture; rw [ha, bind_some, if_pos (by simp)]
      · unfold poly_Evaluate; rw [hf, bind_some, if_pos (by simp)]
      · unfold ref04_Evaluate; rw [ha, bind_some, if_pos (by simp)]
theorem law04_PolyPunctures_ok (p0 : W2) (p1 : Int) (p2 : TPunctured) (p3 : Int) (h1 : I64 p1) (h2 : TPunctured.ok p2) (h3 : I64 p3) : law04_PolyPunctures p0 p1 p2 p3 = some true := by
  obtain ⟨_, _, hl⟩ := h2
  have htw : ref04_TwinPunctured p2 = some p2 := by unfold ref04_TwinPunctured; rw [appG_some (by simp; omega), bind_some, List.nil_append]
  obtain ⟨f, f1, f2, f3⟩ := full_same p0 p1
  obtain ⟨c, r, v, c1, c2, r1, r2, r3, v1, v2⟩ := pun_same p2 p3 (by omega)
  unfold law04_PolyPunctures law04_PolyPunctures_J1 law04_PolyPunctures_J2
  rw [htw, bind_some, f1, f2, bind_some, bind_some, sameP_self _ (by omega), bind_some]
  simp only [Bool.not_true, cond_false]
  rw [if_neg (by simp), c1, c2, bind_some, bind_some, decide_eq_false (by simp), cond_false, r1, r2, bind_some, bind_some, sameP_self _ (by omega), bind_some]
  simp only [Bool.not_true, cond_false]
  rw [decide_eq_false (by simp), cond_false]
  refine fix_go _ (fun m s => ∃ l : List TLabel, s = ((m : Int), l) ∧ l.length = r.1.Labels.length) r.1.Labels.length _ (by omega) ⟨_, rfl, rfl⟩ ?_ ?_
  · rintro m _ hm ⟨l, rfl, hll⟩
    refine ⟨_, ⟨l.set m (TLabel.mk (w64 ((l[m]'(by omega)).Node + 1)) (l[m]'(by omega)).Minus (l[m]'(by omega)).Key), rfl, by simp [hll]⟩, fun rec => ?_⟩
    simp only [law04_PolyPunctures_L3]
    rw [if_pos (by omega), getI_some (by omega), bind_some, bind_some, w64_nat (by omega), Int.toNat_natCast]
  · rintro _ ⟨l, rfl, hll⟩ rec
    simp only [law04_PolyPunctures_L3]
    rw [if_neg (by omega), v1, v2, bind_some, bind_some, if_pos rfl, if_pos rfl, sameP_self _ (by omega), bind_some]
end Go.Sx
