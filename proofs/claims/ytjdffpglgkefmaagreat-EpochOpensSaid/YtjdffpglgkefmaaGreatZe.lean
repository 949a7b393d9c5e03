/- Several texts in one: BitL Srt SrtSub Pl Tr Ts Fx Mb Lb Tm Cv Tk Fy SecN Fd Kn. -/
import Derived.Test.YtjdffpglgkefmaaGreatRows
import Derived.Test.YtjdffpglgkefmaaGreatZc
import Derived.KernelRfl
import Derived.Test.YtjdffpglgkefmaaGreatZb
import Derived.Shelf.SlSortCmp.NoneTotal
import Derived.Test.YtjdffpglgkefmaaGreatZd
import Derived.Shelf.SlGeneric
import Derived.Test.YtjdffpglgkefmaaGreatProg
set_option linter.unusedVariables false
set_option linter.unusedSimpArgs false
section
set_option linter.unusedVariables false
set_option linter.unusedSimpArgs false
namespace Go.Proofs.YtjdffpglgkefmaaGreat
open Go Go.RowKit Go.Sx
theorem Qna : CV Tryz.prog 5 3 .i64 := fun _ _ _ => by kernel_rfl
theorem Xt6 : En Tryz.prog 250 := fun _ _ => by kernel_rfl
theorem Xf0 (n k : Nat) (h : 2 ^ k ≤ n) : Nat.log2 n = Nat.log2 (n / 2 ^ k) + k := by
  induction k generalizing n with
  | zero => simp
  | succ k ih =>
    have h2 : 2 ^ k ≤ n / 2 := by rw [Nat.le_div_iff_mul_le (by omega)]; rw [Nat.pow_succ] at h; omega
    have h1 : 2 ≤ n := by have : 0 < 2 ^ k := Nat.two_pow_pos k; rw [Nat.pow_succ] at h; omega
    rw [Nat.log2_def, if_pos h1, ih (n / 2) h2, Nat.div_div_eq_div_mul, Nat.pow_succ, Nat.mul_comm 2]; omega
theorem Qj6 (a : Int) (k m : Nat) (hm : 2 ^ k = m) (h : (m : Int) ≤ a) : lg a = lg (a / (m : Int)) + k := by
  obtain ⟨n, rfl⟩ := Int.eq_ofNat_of_zero_le (show 0 ≤ a by omega)
  subst hm
  have hp : 0 < 2 ^ k := Nat.two_pow_pos k
  have h' : 2 ^ k ≤ n := by omega
  have e : ((n : Int) / ((2 ^ k : Nat) : Int)).toNat = n / 2 ^ k := by rw [← Int.natCast_ediv]; rfl
  have h1 : ¬ (n / 2 ^ k = 0) := by rw [Nat.div_eq_zero_iff]; omega
  unfold lg
  rw [e, Int.toNat_natCast, if_neg h1, if_neg (by omega), Xf0 n k h']
  omega
def Qr6 : ByteArray := ⟨#[0, 1, 2, 2, 3, 3, 3, 3, 4, 4, 4, 4, 4, 4, 4, 4, 5, 5, 5, 5, 5, 5, 5, 5, 5, 5, 5, 5, 5, 5, 5, 5, 6, 6, 6, 6, 6, 6, 6, 6, 6, 6, 6, 6, 6, 6, 6, 6, 6, 6, 6, 6, 6, 6, 6, 6, 6, 6, 6, 6, 6, 6, 6, 6, 7, 7, 7, 7, 7, 7, 7, 7, 7, 7, 7, 7, 7, 7, 7, 7, 7, 7, 7, 7, 7, 7, 7, 7, 7, 7, 7, 7, 7, 7, 7, 7, 7, 7, 7, 7, 7, 7, 7, 7, 7, 7, 7, 7, 7, 7, 7, 7, 7, 7, 7, 7, 7, 7, 7, 7, 7, 7, 7, 7, 7, 7, 7, 7, 8, 8, 8, 8, 8, 8, 8, 8, 8, 8, 8, 8, 8, 8, 8, 8, 8, 8, 8, 8, 8, 8, 8, 8, 8, 8, 8, 8, 8, 8, 8, 8, 8, 8, 8, 8, 8, 8, 8, 8, 8, 8, 8, 8, 8, 8, 8, 8, 8, 8, 8, 8, 8, 8, 8, 8, 8, 8, 8, 8, 8, 8, 8, 8, 8, 8, 8, 8, 8, 8, 8, 8, 8, 8, 8, 8, 8, 8, 8, 8, 8, 8, 8, 8, 8, 8, 8, 8, 8, 8, 8, 8, 8, 8, 8, 8, 8, 8, 8, 8, 8, 8, 8, 8, 8, 8, 8, 8, 8, 8, 8, 8, 8, 8, 8, 8, 8, 8, 8, 8, 8, 8, 8, 8, 8, 8, 8, 8]⟩
theorem Xf2 : ∀ k : Fin 256, Qr6[k.1]? = some (UInt8.ofNat (lg (k.1 : Int)).toNat) ∧ lg (k.1 : Int) = ((UInt8.ofNat (lg (k.1 : Int)).toNat).toNat : Int) := by decide +kernel
theorem Qdu {a : Int} (h0 : 0 ≤ a) (h1 : a < 256) : Qr6[a.toNat]? = some (UInt8.ofNat (lg a).toNat) ∧ lg a = ((UInt8.ofNat (lg a).toNat).toNat : Int) := by
  obtain ⟨n, rfl⟩ := Int.eq_ofNat_of_zero_le h0
  exact Xf2 ⟨n, by omega⟩
theorem Qzl (a : Int) : -9223372036854775808 ≤ lg a := by unfold lg; split <;> omega
theorem Qzy {a : Int} (h0 : 0 ≤ a) (h1 : a < 256) : lg a ≤ 9223372036854775807 := by have := (Qdu h0 h1).2; have := (UInt8.ofNat (lg a).toNat).toNat_lt; omega
theorem Qu7 {b : Int} (a : Int) (h : 0 ≤ b) : -9223372036854775808 ≤ b + lg a := by unfold lg; split <;> omega
theorem Qq1 {a b : Int} (h0 : 0 ≤ a) (h1 : a < 256) (hb : b ≤ 1000) : b + lg a ≤ 9223372036854775807 := by have := (Qdu h0 h1).2; have := (UInt8.ofNat (lg a).toNat).toNat_lt; omega
set_option maxRecDepth 20000 in
set_option maxHeartbeats 1000000 in
theorem Xn1 (a : Int) (ha1 : 0 ≤ a) (ha2 : a < 18446744073709551616) (w : World) :
    Calls Tryz.prog 250 [.int .u64 a].toArray w fun e w' => ∃ v, e = .returned v ∧ (v = .int .i64 (lg a) ∧ Gr w w') := by
  refine Qa5 (R := fun v w' => v = .int .i64 (lg a) ∧ Gr w w') 25 Tryz.func250 rfl rfl rfl ?_
  refine Qa3 ?_
  refine Qao [(0, 0)] rfl rfl rfl ?_
  refine Qar rfl rfl rfl (Qbg rfl) ?_
  refine Qa1 ?_
  refine Qa3 ?_
  refine Qa3 ?_
  refine Qao [(0, 0), (1, 0)] rfl rfl rfl ?_
  refine Qar rfl rfl rfl (Qac rfl) ?_
  refine Qar rfl rfl rfl (Qee rfl rfl) ?_
  refine Qa1 ?_
  refine Qam rfl (fun h1 => ?_) (fun h1 => ?_)
  · -- h1 True
    replace h1 := of_decide_eq_true h1
    refine Qa3 ?_
    refine Qao [(0, 0), (1, 0), (2, 0)] rfl rfl rfl ?_
    refine Qar rfl rfl rfl (Qac rfl) ?_
    refine Qar rfl rfl rfl (Qs7 (n := 32) (m := 4294967296) rfl rfl rfl (by decide)) ?_
    refine Qar rfl rfl rfl (Qbg rfl) ?_
    refine Qa1 ?_
    refine Qao [(0, 0)] rfl rfl rfl ?_
    refine Qar rfl rfl rfl (Qbg rfl) ?_
    refine Qa1 ?_
    refine Qa3 ?_
    refine Qa3 ?_
    refine Qao [(0, 0), (1, 0)] rfl rfl rfl ?_
    refine Qar rfl rfl rfl (Qac rfl) ?_
    refine Qar rfl rfl rfl (Qee rfl rfl) ?_
    refine Qa1 ?_
    refine Qam rfl (fun h2 => ?_) (fun h2 => ?_)
    · -- h2 True
      replace h2 := of_decide_eq_true h2
      refine Qa3 ?_
      refine Qao [(0, 0), (1, 0), (2, 0)] rfl rfl rfl ?_
      refine Qar rfl rfl rfl (Qac rfl) ?_
      refine Qar rfl rfl rfl (Qs7 (n := 16) (m := 65536) rfl rfl rfl (by decide)) ?_
      refine Qar rfl rfl rfl (Qbg rfl) ?_
      refine Qa1 ?_
      refine Qao [(0, 0), (1, 0), (2, 0)] rfl rfl rfl ?_
      refine Qar rfl rfl rfl (Qac rfl) ?_
      refine Qar rfl rfl rfl (Qer rfl rfl (by omega) (by omega)) ?_
      refine Qar rfl rfl rfl (Qbg rfl) ?_
      refine Qa1 ?_
      refine Qa3 ?_
      refine Qa3 ?_
      refine Qao [(0, 0), (1, 0)] rfl rfl rfl ?_
      refine Qar rfl rfl rfl (Qac rfl) ?_
      refine Qar rfl rfl rfl (Qee rfl rfl) ?_
      refine Qa1 ?_
      refine Qam rfl (fun h3 => ?_) (fun h3 => ?_)
      · -- h3 True
        replace h3 := of_decide_eq_true h3
        refine Qa3 ?_
        refine Qao [(0, 0), (1, 0), (2, 0)] rfl rfl rfl ?_
        refine Qar rfl rfl rfl (Qac rfl) ?_
        refine Qar rfl rfl rfl (Qs7 (n := 8) (m := 256) rfl rfl rfl (by decide)) ?_
        refine Qar rfl rfl rfl (Qbg rfl) ?_
        refine Qa1 ?_
        refine Qao [(0, 0), (1, 0), (2, 0)] rfl rfl rfl ?_
        refine Qar rfl rfl rfl (Qac rfl) ?_
        refine Qar rfl rfl rfl (Qer rfl rfl (by omega) (by omega)) ?_
        refine Qar rfl rfl rfl (Qbg rfl) ?_
        refine Qa1 ?_
        refine Qa3 ?_
        refine Qao [(0, 0), (1, 0), (2, 0), (3, 0), (4, 0), (5, 0), (6, 0)] rfl rfl rfl ?_
        refine Qar rfl rfl rfl (Qac rfl) ?_
        refine Qar rfl rfl rfl (Qac rfl) ?_
        refine Qar rfl rfl rfl (Qn6 Qjx rfl (by omega) (by omega)) ?_
        refine Qar rfl rfl rfl (Qgs (Qnd Tryz.underlying9 rfl rfl (by omega) (show Qr6[_]? = _ from (Qdu (by omega) (by omega)).1)) (congrArg (Value.int .u8) (Qdu (by omega) (by omega)).2.symm)) ?_
        refine Qar rfl rfl rfl (Qk0 Qna rfl (Qzl _) (Qzy (by omega) (by omega))) ?_
        refine Qar rfl rfl rfl (Qer rfl rfl (Qu7 _ (by decide)) (Qq1 (by omega) (by omega) (by decide))) ?_
        refine Qar rfl rfl rfl (Qbg rfl) ?_
        refine Qa1 ?_
        refine Qag ?_
        refine ⟨_, _, rfl, Qml rfl rfl, ?_⟩
        refine ⟨congrArg (Value.int .i64) ?_, (Gr.refl w)⟩
        have e0 : lg (a : Int) = lg ((a : Int) / 4294967296) + 32 := Qj6 (a : Int) 32 4294967296 (by decide) (by omega)
        have e1 : lg ((a : Int) / 4294967296) = lg (((a : Int) / 4294967296) / 65536) + 16 := Qj6 ((a : Int) / 4294967296) 16 65536 (by decide) (by omega)
        have e2 : lg (((a : Int) / 4294967296) / 65536) = lg ((((a : Int) / 4294967296) / 65536) / 256) + 8 := Qj6 (((a : Int) / 4294967296) / 65536) 8 256 (by decide) (by omega)
        omega
      · -- h3 False
        replace h3 := of_decide_eq_false h3
        refine Qc4 ?_
        refine Qaz ?_
        refine Qa3 ?_
        refine Qao [(0, 0), (1, 0), (2, 0), (3, 0), (4, 0), (5, 0), (6, 0)] rfl rfl rfl ?_
        refine Qar rfl rfl rfl (Qac rfl) ?_
        refine Qar rfl rfl rfl (Qac rfl) ?_
        refine Qar rfl rfl rfl (Qn6 Qjx rfl (by omega) (by omega)) ?_
        refine Qar rfl rfl rfl (Qgs (Qnd Tryz.underlying9 rfl rfl (by omega) (show Qr6[_]? = _ from (Qdu (by omega) (by omega)).1)) (congrArg (Value.int .u8) (Qdu (by omega) (by omega)).2.symm)) ?_
        refine Qar rfl rfl rfl (Qk0 Qna rfl (Qzl _) (Qzy (by omega) (by omega))) ?_
        refine Qar rfl rfl rfl (Qer rfl rfl (Qu7 _ (by decide)) (Qq1 (by omega) (by omega) (by decide))) ?_
        refine Qar rfl rfl rfl (Qbg rfl) ?_
        refine Qa1 ?_
        refine Qag ?_
        refine ⟨_, _, rfl, Qml rfl rfl, ?_⟩
        refine ⟨congrArg (Value.int .i64) ?_, (Gr.refl w)⟩
        have e0 : lg (a : Int) = lg ((a : Int) / 4294967296) + 32 := Qj6 (a : Int) 32 4294967296 (by decide) (by omega)
        have e1 : lg ((a : Int) / 4294967296) = lg (((a : Int) / 4294967296) / 65536) + 16 := Qj6 ((a : Int) / 4294967296) 16 65536 (by decide) (by omega)
        omega
    · -- h2 False
      replace h2 := of_decide_eq_false h2
      refine Qc4 ?_
      refine Qaz ?_
      refine Qa3 ?_
      refine Qa3 ?_
      refine Qao [(0, 0), (1, 0)] rfl rfl rfl ?_
      refine Qar rfl rfl rfl (Qac rfl) ?_
      refine Qar rfl rfl rfl (Qee rfl rfl) ?_
      refine Qa1 ?_
      refine Qam rfl (fun h4 => ?_) (fun h4 => ?_)
      · -- h4 True
        replace h4 := of_decide_eq_true h4
        refine Qa3 ?_
        refine Qao [(0, 0), (1, 0), (2, 0)] rfl rfl rfl ?_
        refine Qar rfl rfl rfl (Qac rfl) ?_
        refine Qar rfl rfl rfl (Qs7 (n := 8) (m := 256) rfl rfl rfl (by decide)) ?_
        refine Qar rfl rfl rfl (Qbg rfl) ?_
        refine Qa1 ?_
        refine Qao [(0, 0), (1, 0), (2, 0)] rfl rfl rfl ?_
        refine Qar rfl rfl rfl (Qac rfl) ?_
        refine Qar rfl rfl rfl (Qer rfl rfl (by omega) (by omega)) ?_
        refine Qar rfl rfl rfl (Qbg rfl) ?_
        refine Qa1 ?_
        refine Qa3 ?_
        refine Qao [(0, 0), (1, 0), (2, 0), (3, 0), (4, 0), (5, 0), (6, 0)] rfl rfl rfl ?_
        refine Qar rfl rfl rfl (Qac rfl) ?_
        refine Qar rfl rfl rfl (Qac rfl) ?_
        refine Qar rfl rfl rfl (Qn6 Qjx rfl (by omega) (by omega)) ?_
        refine Qar rfl rfl rfl (Qgs (Qnd Tryz.underlying9 rfl rfl (by omega) (show Qr6[_]? = _ from (Qdu (by omega) (by omega)).1)) (congrArg (Value.int .u8) (Qdu (by omega) (by omega)).2.symm)) ?_
        refine Qar rfl rfl rfl (Qk0 Qna rfl (Qzl _) (Qzy (by omega) (by omega))) ?_
        refine Qar rfl rfl rfl (Qer rfl rfl (Qu7 _ (by decide)) (Qq1 (by omega) (by omega) (by decide))) ?_
        refine Qar rfl rfl rfl (Qbg rfl) ?_
        refine Qa1 ?_
        refine Qag ?_
        refine ⟨_, _, rfl, Qml rfl rfl, ?_⟩
        refine ⟨congrArg (Value.int .i64) ?_, (Gr.refl w)⟩
        have e0 : lg (a : Int) = lg ((a : Int) / 4294967296) + 32 := Qj6 (a : Int) 32 4294967296 (by decide) (by omega)
        have e1 : lg ((a : Int) / 4294967296) = lg (((a : Int) / 4294967296) / 256) + 8 := Qj6 ((a : Int) / 4294967296) 8 256 (by decide) (by omega)
        omega
      · -- h4 False
        replace h4 := of_decide_eq_false h4
        refine Qc4 ?_
        refine Qaz ?_
        refine Qa3 ?_
        refine Qao [(0, 0), (1, 0), (2, 0), (3, 0), (4, 0), (5, 0), (6, 0)] rfl rfl rfl ?_
        refine Qar rfl rfl rfl (Qac rfl) ?_
        refine Qar rfl rfl rfl (Qac rfl) ?_
        refine Qar rfl rfl rfl (Qn6 Qjx rfl (by omega) (by omega)) ?_
        refine Qar rfl rfl rfl (Qgs (Qnd Tryz.underlying9 rfl rfl (by omega) (show Qr6[_]? = _ from (Qdu (by omega) (by omega)).1)) (congrArg (Value.int .u8) (Qdu (by omega) (by omega)).2.symm)) ?_
        refine Qar rfl rfl rfl (Qk0 Qna rfl (Qzl _) (Qzy (by omega) (by omega))) ?_
        refine Qar rfl rfl rfl (Qer rfl rfl (Qu7 _ (by decide)) (Qq1 (by omega) (by omega) (by decide))) ?_
        refine Qar rfl rfl rfl (Qbg rfl) ?_
        refine Qa1 ?_
        refine Qag ?_
        refine ⟨_, _, rfl, Qml rfl rfl, ?_⟩
        refine ⟨congrArg (Value.int .i64) ?_, (Gr.refl w)⟩
        have e0 : lg (a : Int) = lg ((a : Int) / 4294967296) + 32 := Qj6 (a : Int) 32 4294967296 (by decide) (by omega)
        omega
  · -- h1 False
    replace h1 := of_decide_eq_false h1
    refine Qc4 ?_
    refine Qaz ?_
    refine Qa3 ?_
    refine Qa3 ?_
    refine Qao [(0, 0), (1, 0)] rfl rfl rfl ?_
    refine Qar rfl rfl rfl (Qac rfl) ?_
    refine Qar rfl rfl rfl (Qee rfl rfl) ?_
    refine Qa1 ?_
    refine Qam rfl (fun h5 => ?_) (fun h5 => ?_)
    · -- h5 True
      replace h5 := of_decide_eq_true h5
      refine Qa3 ?_
      refine Qao [(0, 0), (1, 0), (2, 0)] rfl rfl rfl ?_
      refine Qar rfl rfl rfl (Qac rfl) ?_
      refine Qar rfl rfl rfl (Qs7 (n := 16) (m := 65536) rfl rfl rfl (by decide)) ?_
      refine Qar rfl rfl rfl (Qbg rfl) ?_
      refine Qa1 ?_
      refine Qao [(0, 0), (1, 0), (2, 0)] rfl rfl rfl ?_
      refine Qar rfl rfl rfl (Qac rfl) ?_
      refine Qar rfl rfl rfl (Qer rfl rfl (by omega) (by omega)) ?_
      refine Qar rfl rfl rfl (Qbg rfl) ?_
      refine Qa1 ?_
      refine Qa3 ?_
      refine Qa3 ?_
      refine Qao [(0, 0), (1, 0)] rfl rfl rfl ?_
      refine Qar rfl rfl rfl (Qac rfl) ?_
      refine Qar rfl rfl rfl (Qee rfl rfl) ?_
      refine Qa1 ?_
      refine Qam rfl (fun h6 => ?_) (fun h6 => ?_)
      · -- h6 True
        replace h6 := of_decide_eq_true h6
        refine Qa3 ?_
        refine Qao [(0, 0), (1, 0), (2, 0)] rfl rfl rfl ?_
        refine Qar rfl rfl rfl (Qac rfl) ?_
        refine Qar rfl rfl rfl (Qs7 (n := 8) (m := 256) rfl rfl rfl (by decide)) ?_
        refine Qar rfl rfl rfl (Qbg rfl) ?_
        refine Qa1 ?_
        refine Qao [(0, 0), (1, 0), (2, 0)] rfl rfl rfl ?_
        refine Qar rfl rfl rfl (Qac rfl) ?_
        refine Qar rfl rfl rfl (Qer rfl rfl (by omega) (by omega)) ?_
        refine Qar rfl rfl rfl (Qbg rfl) ?_
        refine Qa1 ?_
        refine Qa3 ?_
        refine Qao [(0, 0), (1, 0), (2, 0), (3, 0), (4, 0), (5, 0), (6, 0)] rfl rfl rfl ?_
        refine Qar rfl rfl rfl (Qac rfl) ?_
        refine Qar rfl rfl rfl (Qac rfl) ?_
        refine Qar rfl rfl rfl (Qn6 Qjx rfl (by omega) (by omega)) ?_
        refine Qar rfl rfl rfl (Qgs (Qnd Tryz.underlying9 rfl rfl (by omega) (show Qr6[_]? = _ from (Qdu (by omega) (by omega)).1)) (congrArg (Value.int .u8) (Qdu (by omega) (by omega)).2.symm)) ?_
        refine Qar rfl rfl rfl (Qk0 Qna rfl (Qzl _) (Qzy (by omega) (by omega))) ?_
        refine Qar rfl rfl rfl (Qer rfl rfl (Qu7 _ (by decide)) (Qq1 (by omega) (by omega) (by decide))) ?_
        refine Qar rfl rfl rfl (Qbg rfl) ?_
        refine Qa1 ?_
        refine Qag ?_
        refine ⟨_, _, rfl, Qml rfl rfl, ?_⟩
        refine ⟨congrArg (Value.int .i64) ?_, (Gr.refl w)⟩
        have e0 : lg (a : Int) = lg ((a : Int) / 65536) + 16 := Qj6 (a : Int) 16 65536 (by decide) (by omega)
        have e1 : lg ((a : Int) / 65536) = lg (((a : Int) / 65536) / 256) + 8 := Qj6 ((a : Int) / 65536) 8 256 (by decide) (by omega)
        omega
      · -- h6 False
        replace h6 := of_decide_eq_false h6
        refine Qc4 ?_
        refine Qaz ?_
        refine Qa3 ?_
        refine Qao [(0, 0), (1, 0), (2, 0), (3, 0), (4, 0), (5, 0), (6, 0)] rfl rfl rfl ?_
        refine Qar rfl rfl rfl (Qac rfl) ?_
        refine Qar rfl rfl rfl (Qac rfl) ?_
        refine Qar rfl rfl rfl (Qn6 Qjx rfl (by omega) (by omega)) ?_
        refine Qar rfl rfl rfl (Qgs (Qnd Tryz.underlying9 rfl rfl (by omega) (show Qr6[_]? = _ from (Qdu (by omega) (by omega)).1)) (congrArg (Value.int .u8) (Qdu (by omega) (by omega)).2.symm)) ?_
        refine Qar rfl rfl rfl (Qk0 Qna rfl (Qzl _) (Qzy (by omega) (by omega))) ?_
        refine Qar rfl rfl rfl (Qer rfl rfl (Qu7 _ (by decide)) (Qq1 (by omega) (by omega) (by decide))) ?_
        refine Qar rfl rfl rfl (Qbg rfl) ?_
        refine Qa1 ?_
        refine Qag ?_
        refine ⟨_, _, rfl, Qml rfl rfl, ?_⟩
        refine ⟨congrArg (Value.int .i64) ?_, (Gr.refl w)⟩
        have e0 : lg (a : Int) = lg ((a : Int) / 65536) + 16 := Qj6 (a : Int) 16 65536 (by decide) (by omega)
        omega
    · -- h5 False
      replace h5 := of_decide_eq_false h5
      refine Qc4 ?_
      refine Qaz ?_
      refine Qa3 ?_
      refine Qa3 ?_
      refine Qao [(0, 0), (1, 0)] rfl rfl rfl ?_
      refine Qar rfl rfl rfl (Qac rfl) ?_
      refine Qar rfl rfl rfl (Qee rfl rfl) ?_
      refine Qa1 ?_
      refine Qam rfl (fun h7 => ?_) (fun h7 => ?_)
      · -- h7 True
        replace h7 := of_decide_eq_true h7
        refine Qa3 ?_
        refine Qao [(0, 0), (1, 0), (2, 0)] rfl rfl rfl ?_
        refine Qar rfl rfl rfl (Qac rfl) ?_
        refine Qar rfl rfl rfl (Qs7 (n := 8) (m := 256) rfl rfl rfl (by decide)) ?_
        refine Qar rfl rfl rfl (Qbg rfl) ?_
        refine Qa1 ?_
        refine Qao [(0, 0), (1, 0), (2, 0)] rfl rfl rfl ?_
        refine Qar rfl rfl rfl (Qac rfl) ?_
        refine Qar rfl rfl rfl (Qer rfl rfl (by omega) (by omega)) ?_
        refine Qar rfl rfl rfl (Qbg rfl) ?_
        refine Qa1 ?_
        refine Qa3 ?_
        refine Qao [(0, 0), (1, 0), (2, 0), (3, 0), (4, 0), (5, 0), (6, 0)] rfl rfl rfl ?_
        refine Qar rfl rfl rfl (Qac rfl) ?_
        refine Qar rfl rfl rfl (Qac rfl) ?_
        refine Qar rfl rfl rfl (Qn6 Qjx rfl (by omega) (by omega)) ?_
        refine Qar rfl rfl rfl (Qgs (Qnd Tryz.underlying9 rfl rfl (by omega) (show Qr6[_]? = _ from (Qdu (by omega) (by omega)).1)) (congrArg (Value.int .u8) (Qdu (by omega) (by omega)).2.symm)) ?_
        refine Qar rfl rfl rfl (Qk0 Qna rfl (Qzl _) (Qzy (by omega) (by omega))) ?_
        refine Qar rfl rfl rfl (Qer rfl rfl (Qu7 _ (by decide)) (Qq1 (by omega) (by omega) (by decide))) ?_
        refine Qar rfl rfl rfl (Qbg rfl) ?_
        refine Qa1 ?_
        refine Qag ?_
        refine ⟨_, _, rfl, Qml rfl rfl, ?_⟩
        refine ⟨congrArg (Value.int .i64) ?_, (Gr.refl w)⟩
        have e0 : lg (a : Int) = lg ((a : Int) / 256) + 8 := Qj6 (a : Int) 8 256 (by decide) (by omega)
        omega
      · -- h7 False
        replace h7 := of_decide_eq_false h7
        refine Qc4 ?_
        refine Qaz ?_
        refine Qa3 ?_
        refine Qao [(0, 0), (1, 0), (2, 0), (3, 0), (4, 0), (5, 0), (6, 0)] rfl rfl rfl ?_
        refine Qar rfl rfl rfl (Qac rfl) ?_
        refine Qar rfl rfl rfl (Qac rfl) ?_
        refine Qar rfl rfl rfl (Qn6 Qjx rfl (by omega) (by omega)) ?_
        refine Qar rfl rfl rfl (Qgs (Qnd Tryz.underlying9 rfl rfl (by omega) (show Qr6[_]? = _ from (Qdu (by omega) (by omega)).1)) (congrArg (Value.int .u8) (Qdu (by omega) (by omega)).2.symm)) ?_
        refine Qar rfl rfl rfl (Qk0 Qna rfl (Qzl _) (Qzy (by omega) (by omega))) ?_
        refine Qar rfl rfl rfl (Qer rfl rfl (Qu7 _ (by decide)) (Qq1 (by omega) (by omega) (by decide))) ?_
        refine Qar rfl rfl rfl (Qbg rfl) ?_
        refine Qa1 ?_
        refine Qag ?_
        refine ⟨_, _, rfl, Qml rfl rfl, ?_⟩
        refine ⟨congrArg (Value.int .i64) ?_, (Gr.refl w)⟩
        omega
set_option maxHeartbeats 1000000 in
theorem Xtx (a : Int) (ha1 : 0 ≤ a) (ha2 : a < 18446744073709551616) (w : World) :
    Calls Tryz.prog 194 [.int .u64 a].toArray w fun e w' => ∃ v, e = .returned v ∧ (v = .int .i64 (lg a) ∧ Gr w w') := by
  refine Qa5 (R := fun v w' => v = .int .i64 (lg a) ∧ Gr w w') 8 Tryz.func194 rfl rfl rfl ?_
  refine Qa3 ?_
  refine Qao [(0, 0)] rfl rfl rfl ?_
  refine Qar rfl rfl rfl (Qbg rfl) ?_
  refine Qa1 ?_
  refine Qa3 ?_
  refine Qkv rfl ?_
  refine Qc4 ?_
  refine Qaz ?_
  refine Qa3 ?_
  refine Qao [(0, 0), (1, 0), (2, 0)] rfl rfl rfl ?_
  refine Qar rfl rfl rfl (Qac rfl) ?_
  refine Qe4 rfl rfl rfl (Qh9 Xt6 rfl (Xn1 _ (by omega) (by omega) _)) ?_
  rintro _ w1 ⟨rfl, Gw1⟩
  have z1 := Gw1.size
  refine Qar rfl rfl rfl (Qbg rfl) ?_
  refine Qa1 ?_
  refine Qag ?_
  have X2 : Gr w w1 := (Gr.trans (Gr.refl w) Gw1)
  refine ⟨_, _, rfl, Qml rfl rfl, ?_⟩
  exact ⟨rfl, X2⟩
end Go.Proofs.YtjdffpglgkefmaaGreat

end
section
set_option linter.unusedVariables false
set_option linter.unusedSimpArgs false
namespace Go.Sx
open Go Go.RowKit Go.Proofs Go.Sort Go.Shelf
def Ws' (k : Nat) (xs : List (List Value)) : Prop := ∀ y ∈ xs, y.length = k
theorem Xtw {β : Type} [Inhabited β] (enc : β → List Value) (k : Nat) (hk : 1 ≤ k) (hc : ∀ b, (enc b).length = k) (w : World) (g n : Nat) (d : Array β) (os : Array Obj) (e : TypeId) (cur : Array Value) (hb : w.heap[g]? = some (.cells cur e (0, 0))) (hl : d.size * k ≤ cur.size) :
    ∃ cur' : Array Value, (sortWorldK enc k w g 0 n d os).heap[g]? = some (.cells cur' e (0, 0)) ∧ cur'.size = cur.size ∧ cur'.toList.take (d.size * k) = (d.toList.map enc).flatten ∧ Kz [(1, g)] w (sortWorldK enc k w g 0 n d os) := by
  have hlt : g < w.heap.size := (Array.getElem?_eq_some_iff.1 hb).1
  have hh : (sortWorldK enc k w g 0 n d os).heap = (w.heap.modify g (onCells (putCells id 0 (flatK enc k d)))) ++ os := rfl
  refine ⟨putCells id 0 (flatK enc k d) cur, ?_, by simp [putCells], ?_, ?_⟩
  · rw [hh, Array.getElem?_append_left (by simpa using hlt), Array.getElem?_modify, if_pos rfl, hb]; rfl
  · apply List.ext_getElem?
    intro t
    rw [List.getElem?_take]
    have hfl : ((d.toList.map enc).flatten).length = d.size * k := by
      have : Ws' k (d.toList.map enc) := by
        intro y hy; obtain ⟨b, _, rfl⟩ := List.mem_map.1 hy; exact hc b
      have h2 : ∀ (xs : List (List Value)), Ws' k xs → xs.flatten.length = xs.length * k := by
        intro xs
        induction xs with
        | nil => intro _; simp
        | cons a xs ih => intro h; rw [List.flatten_cons, List.length_append, ih (fun y hy => h y (List.mem_cons_of_mem _ hy)), h a (by simp), List.length_cons, Nat.add_mul]; omega
      rw [h2 _ this]; simp
    by_cases ht : t < d.size * k
    · rw [if_pos ht]
      have htc : t < cur.size := by omega
      have h3 : (putCells id 0 (flatK enc k d) cur).toList[t]? = some ((flatK enc k d)[t]!) := by
        simp only [putCells, Array.getElem?_toList, Array.getElem?_mapIdx, Array.getElem?_eq_getElem htc, Option.map_some, Nat.zero_le, true_and, Nat.zero_add, size_flatK, ht, if_true, Nat.sub_zero, id]
      rw [h3, get_flatK enc k d t ht]
      have hq : t / k < d.size := (Nat.div_lt_iff_lt_mul (by omega)).2 ht
      have hm : t % k < k := Nat.mod_lt _ (by omega)
      have hgen : ∀ (xs : List (List Value)), Ws' k xs → ∀ i j c, xs[i]? = some c → j < k → xs.flatten[i * k + j]? = c[j]? := by
        intro xs
        induction xs with
        | nil => intro _ i j c h; simp at h
        | cons a xs ih =>
          intro hw i j c h hj
          have ha := hw a (by simp)
          rw [List.flatten_cons]
          cases i with
          | zero => simp at h; subst h; rw [Nat.zero_mul, Nat.zero_add, List.getElem?_append_left (by omega)]
          | succ i =>
            rw [List.getElem?_append_right (by rw [ha, Nat.add_mul]; omega), show (i + 1) * k + j - a.length = i * k + j from by rw [ha, Nat.add_mul]; omega]
            exact ih (fun y hy => hw y (List.mem_cons_of_mem _ hy)) i j c (by simpa using h) hj
      have h4 := hgen (d.toList.map enc) (fun y hy => by obtain ⟨b, _, rfl⟩ := List.mem_map.1 hy; exact hc b) (t / k) (t % k) (enc d[t / k]!) (by simp [hq]) hm
      have hdm : t / k * k + t % k = t := by rw [Nat.mul_comm]; exact Nat.div_add_mod t k
      rw [hdm] at h4
      rw [h4]
      have h5 : t % k < (enc d[t / k]!).length := by rw [hc]; exact hm
      simp [h5]
    · rw [if_neg ht, List.getElem?_eq_none (by omega)]
  · refine ⟨rfl, rfl, rfl, by rw [hh]; simp, fun i hi hn => ?_⟩
    have hne : g ≠ i := by
      simp only [Nin] at hn
      rcases hn.1 with h | h
      · omega
      · exact fun e => h e.symm
    rw [hh, Array.getElem?_append_left (by simpa using hi), Array.getElem?_modify, if_neg hne]
section
variable {P : Program} {ρ : Ren}
theorem Xji {β : Type} (c : β → List Value) (k : Nat) (hc : ∀ b, (c b).length = k) (h1 : ∀ b, Qla (c b) = true) (hk : 1 ≤ k) (key : β → Int) (cf : Nat) (L : SlLaysF0.n6 P ρ) (aE : ∀ w, (isAgg (ρ.t 24)).run P w = .ok true w) (zE : ∀ w, (Go.sizeOf (ρ.t 24)).run P w = .ok k w)
    (eg : ∀ args w, (callFunc cf args).run P w = .ok (.enter cf args) w)
    (hcmp : ∀ (x y : β) (W : World), 0 ≤ key x ∧ key x < 4611686018427387904 → 0 ≤ key y ∧ key y < 4611686018427387904 → Calls P cf #[.agg (c x).toArray, .agg (c y).toArray] W fun e w' => e = .returned (.int .i64 (key x - key y)) ∧ ∃ q os', w' = grow (W.drewN q) os')
    {l m : List β} (hm : Xc6 key l = some m) (w : World) (z g : Nat) (e : TypeId) (v : Value) (h : Own w z g e k v (l.map c)) :
    Calls P (ρ.f 6) #[v, .func (.func cf) #[] #[]] w fun e' w' => ∃ v', e' = .returned v' ∧ (Own w' z g e k v (m.map c) ∧ Kz [(z, g)] w w') := by
  obtain ⟨rfl, hbd, hnd, hlen⟩ := Xjj hm
  rcases h.2 with ⟨hz, rfl, h0⟩ | ⟨hz, cap, cur, rfl, hb, hn, hcap, hsz, htk⟩
  · have hl0 : l = [] := by simpa using h0
    subst hl0
    refine (AnyF.slices_SortFunc_none L none 0 (.func (.func cf) #[] #[]) w).mono ?_
    rintro e' w' ⟨rfl, rfl⟩
    exact ⟨_, rfl, by simpa using h, Kz.refl _ _⟩
  · by_cases hl0 : l = []
    · subst hl0
      have : (([] : List β).map c).length = 0 := rfl
      rw [this]
      refine (AnyF.slices_SortFunc_none L (some ⟨g, 0, none⟩) cap (.func (.func cf) #[] #[]) w).mono ?_
      rintro e' w' ⟨rfl, rfl⟩
      exact ⟨_, rfl, by simpa using h, Kz.refl _ _⟩
    · obtain ⟨b0, hb0⟩ := List.exists_mem_of_ne_nil l hl0
      let A := { x : β // x ∈ l }
      letI : Inhabited A := ⟨⟨b0, hb0⟩⟩
      let enc : A → List Value := fun x => c x.1
      let d : Array A := l.attach.toArray
      let cfn : A → A → Int := fun x y => key x.1 - key y.1
      have hds : d.size = l.length := by show l.attach.toArray.size = l.length; simp
      have hlt : ∀ x y : A, ltOf cfn x y = decide (key x.1 < key y.1) := fun x y => by
        unfold ltOf; apply decide_eq_decide.2; show key x.1 - key y.1 < 0 ↔ _; omega
      have hO : SWO (ltOf cfn) := ⟨fun x => by rw [hlt]; simp, fun x y z h1 h2 => by rw [hlt] at *; simp at *; omega, fun x y z h1 h2 => by rw [hlt] at *; simp at *; omega⟩
      have hT : ∀ x y : A, ltOf cfn x y = false → ltOf cfn y x = false → x = y := fun x y h1 h2 => by
        rw [hlt] at h1 h2
        simp at h1 h2
        have he : key x.1 = key y.1 := by omega
        apply Subtype.ext
        obtain ⟨i, hi, ei⟩ := List.mem_iff_getElem.1 x.2
        obtain ⟨j, hj, ej⟩ := List.mem_iff_getElem.1 y.2
        have hij : i = j := (List.getElem_inj (h₀ := by simpa using hi) (h₁ := by simpa using hj) hnd).1 (by rw [List.getElem_map, List.getElem_map, ei, ej]; exact he)
        subst hij; rw [← ei, ← ej]
      have hmk : d.toList.map enc = l.map c := by
        show l.attach.toArray.toList.map (fun x : A => c x.1) = l.map c
        show List.map (fun x : { x : β // x ∈ l } => c x.1) l.attach = l.map c
        exact List.attach_map_val
      rw [List.length_map] at hn htk
      have hle : d.size * k ≤ cur.size := by rw [hds, hsz]; exact Nat.mul_le_mul_right _ hn
      have hH : HoldsK enc k w g 0 d := by
        intro j hj
        rw [size_flatK] at hj
        rw [get_flatK enc k d j hj]
        have hq : j / k < d.size := (Nat.div_lt_iff_lt_mul (by omega)).2 hj
        have hm' : j % k < k := Nat.mod_lt _ (by omega)
        have hcell : w.cell? ⟨g, 0 + j, none⟩ = cur[j]? := by rw [Nat.zero_add, cell_of_row w g j _ e _ hb]
        have hws : Ws k (l.map c) := h.1
        have hat := hws.at (j / k) (j % k) (c (l[j / k]'(by omega))) (by simp [show j / k < l.length by omega]) hm'
        have hdm : j / k * k + j % k = j := by rw [Nat.mul_comm]; exact Nat.div_add_mod j k
        rw [hdm, ← htk, List.getElem?_take, if_pos (by rw [hds] at hj; exact hj), Array.getElem?_toList] at hat
        have hdj : enc d[j / k]! = c (l[j / k]'(by omega)) := by
          have : d[j / k]! = ⟨l[j / k]'(by omega), List.getElem_mem _⟩ := by
            have hjl : j / k < d.size := hq
            rw [getElem!_pos d (j / k) hjl]
            show (l.attach.toArray)[j / k]'(by simpa using (show j / k < l.length by omega)) = _
            simp
          rw [this]
        refine ⟨?_, ?_⟩
        · rw [hcell, hat, hdj]
          have h5 : j % k < (c (l[j / k]'(by omega))).length := by rw [hc]; exact hm'
          simp [h5]
        · simp [World.frozen?, hb]
      have hcl : CmpLays P cf #[] enc k cfn g 0 d.size w := fun mm os dk hs x y => by
        have := hcmp x.1 y.1 (sortWorldK enc k w g 0 mm dk os) (hbd _ x.2) (hbd _ y.2)
        simpa [enc, cfn] using this
      have hone : ∀ x : A, ∀ u ∈ enc x, u.oneCell' = true := fun x u hu => by
        have hws : Ws k (l.map c) := h.1
        exact hws.one u (List.mem_flatten.2 ⟨c x.1, List.mem_map.2 ⟨x.1, x.2, rfl⟩, hu⟩)
      have := AnyQ.slices_SortFunc_total L k aE zE enc (fun x => hc x.1) hone cfn hO cf #[] g 0 cap d w eg hcl hH (Array.getElem?_eq_some_iff.1 hb).1 (by omega) hT
      rw [hds] at this
      rw [List.length_map]
      refine this.mono ?_
      rintro e' w' ⟨rfl, n, os, rfl⟩
      have hms : (d.toList.mergeSort fun x y => !(ltOf cfn) y x).map enc = (l.mergeSort fun a b => decide (key a ≤ key b)).map c := by
        have e1 : (d.toList.mergeSort fun x y => !(ltOf cfn) y x).map Subtype.val = (l.mergeSort fun a b => decide (key a ≤ key b)) := by
          rw [List.map_mergeSort (s := fun a b => decide (key a ≤ key b)) (fun a _ b _ => by rw [hlt]; by_cases hh : key b.1 < key a.1 <;> simp [hh] <;> omega)]
          congr 1
          show List.map Subtype.val l.attach = l
          simp
        rw [← e1, List.map_map]; rfl
      have hsl : (d.toList.mergeSort fun x y => !(ltOf cfn) y x).toArray.size = l.length := by rw [List.size_toArray, List.length_mergeSort]; exact hds
      obtain ⟨cur', q1, q2, q3, q4⟩ := Xtw enc k hk (fun x => hc x.1) w g n (d.toList.mergeSort fun x y => !(ltOf cfn) y x).toArray os e cur hb (by rw [hsl, ← hds]; exact hle)
      rw [hsl, List.toList_toArray, hms] at q3
      refine ⟨_, rfl, ⟨?_, .inr ⟨hz, cap, cur', ?_, q1, ?_, ?_, ?_, ?_⟩⟩, by rw [hz]; exact q4⟩
      · exact Xg4 fun x _ => ⟨hc x, h1 x⟩
      · rw [List.length_map, List.length_mergeSort]
      · rw [List.length_map, List.length_mergeSort]; exact hn
      · exact hcap
      · rw [q2]; exact hsz
      · rw [List.length_map, List.length_mergeSort]; exact q3
end
end Go.Sx

end
section
set_option linter.unusedVariables false
set_option linter.unusedSimpArgs false
set_option maxRecDepth 100000
namespace Go.Proofs.YtjdffpglgkefmaaGreat.Mx
open Go Go.RowKit Go.Sx Go.Proofs Go.Shelf Go.Lib Go.Sort
def Qxc : Go.Shelf.Ren := ⟨fun | 6 => 119 | 15 => 194 | 14 => 193 | 28 => 249 | 29 => 250 | 20 => 241 | 21 => 242 | 22 => 243 | 23 => 244 | 24 => 245 | 25 => 246 | 26 => 247 | 27 => 248 | 46 => 258 | 47 => 259 | 48 => 260 | 49 => 261 | 50 => 262 | 57 => 263 | n => n, fun | 22 => 107 | 24 => 131 | 25 => 187 | 3 => 3 | 39 => 150 | 0 => 0 | 53 => 299 | 55 => 24 | 4 => 4 | 46 => 293 | 45 => 292 | 50 => 154 | 5 => 5 | 9 => 9 | 66 => 304 | 70 => 308 | 76 => 310 | 77 => 230 | n => n, fun | n => n⟩
theorem Xps : Go.Proofs.SlLaysF0.n6 Tryz.prog Qxc := {
  mixed := by kernel_rfl
  f6 := ⟨Tryz.f119.name, by decide, Tryz.func119.trans (congrArg some (by kernel_rfl))⟩
  f14 := ⟨Tryz.f193.name, by decide, Tryz.func193.trans (congrArg some (by kernel_rfl))⟩
  f15 := Tryz.func194.trans (congrArg some (by kernel_rfl))
  f20 := ⟨Tryz.f241.name, by decide, Tryz.func241.trans (congrArg some (by kernel_rfl))⟩
  f21 := ⟨Tryz.f242.name, by decide, Tryz.func242.trans (congrArg some (by kernel_rfl))⟩
  f22 := ⟨Tryz.f243.name, by decide, Tryz.func243.trans (congrArg some (by kernel_rfl))⟩
  f23 := ⟨Tryz.f244.name, by decide, Tryz.func244.trans (congrArg some (by kernel_rfl))⟩
  f24 := ⟨Tryz.f245.name, by decide, Tryz.func245.trans (congrArg some (by kernel_rfl))⟩
  f25 := ⟨Tryz.f246.name, by decide, Tryz.func246.trans (congrArg some (by kernel_rfl))⟩
  f26 := ⟨Tryz.f247.name, by decide, Tryz.func247.trans (congrArg some (by kernel_rfl))⟩
  f27 := ⟨Tryz.f248.name, by decide, Tryz.func248.trans (congrArg some (by kernel_rfl))⟩
  f28 := Tryz.func249.trans (congrArg some (by kernel_rfl))
  f29 := Tryz.func250.trans (congrArg some (by kernel_rfl))
  f46 := ⟨Tryz.f258.name, by decide, Tryz.func258.trans (congrArg some (by kernel_rfl))⟩
  f47 := Tryz.func259.trans (congrArg some (by kernel_rfl))
  f48 := Tryz.func260.trans (congrArg some (by kernel_rfl))
  f49 := ⟨Tryz.f261.name, by decide, Tryz.func261.trans (congrArg some (by kernel_rfl))⟩
  f50 := ⟨Tryz.f262.name, by decide, Tryz.func262.trans (congrArg some (by kernel_rfl))⟩
  f57 := ⟨Tryz.f263.name, by decide, Tryz.func263.trans (congrArg some (by kernel_rfl))⟩
  t0 := Tryz.underlying0
  a0 := Tryz.isAgg0
  z0 := Tryz.sizeOf0
  v0 := Tryz.zeroValue0
  t3 := Tryz.underlying3
  a3 := Tryz.isAgg3
  z3 := Tryz.sizeOf3
  v3 := Tryz.zeroValue3
  t4 := Tryz.underlying4
  a4 := Tryz.isAgg4
  z4 := Tryz.sizeOf4
  v4 := Tryz.zeroValue4
  t5 := Tryz.underlying5
  a5 := Tryz.isAgg5
  z5 := Tryz.sizeOf5
  v5 := Tryz.zeroValue5
  t9 := Tryz.underlying9
  a9 := Tryz.isAgg9
  z9 := Tryz.sizeOf9
  v9 := Tryz.zeroValue9
  t22 := Tryz.underlying107
  a22 := Tryz.isAgg107
  z22 := Tryz.sizeOf107
  v22 := Tryz.zeroValue107
  t25 := Tryz.underlying187
  a25 := Tryz.isAgg187
  z25 := Tryz.sizeOf187
  v25 := Tryz.zeroValue187
  t39 := Tryz.underlying150
  a39 := Tryz.isAgg150
  z39 := Tryz.sizeOf150
  v39 := Tryz.zeroValue150
  t45 := Tryz.underlying292
  a45 := Tryz.isAgg292
  z45 := Tryz.sizeOf292
  v45 := Tryz.zeroValue292
  t46 := Tryz.underlying293
  a46 := Tryz.isAgg293
  z46 := Tryz.sizeOf293
  v46 := Tryz.zeroValue293
  t50 := Tryz.underlying154
  a50 := Tryz.isAgg154
  z50 := Tryz.sizeOf154
  v50 := Tryz.zeroValue154
  t53 := Tryz.underlying299
  a53 := Tryz.isAgg299
  z53 := Tryz.sizeOf299
  v53 := Tryz.zeroValue299
  t55 := Tryz.underlying24
  a55 := Tryz.isAgg24
  z55 := Tryz.sizeOf24
  v55 := Tryz.zeroValue24
  t66 := Tryz.underlying304
  a66 := Tryz.isAgg304
  z66 := Tryz.sizeOf304
  v66 := Tryz.zeroValue304
  t70 := Tryz.underlying308
  a70 := Tryz.isAgg308
  z70 := Tryz.sizeOf308
  v70 := Tryz.zeroValue308
  t76 := Tryz.underlying310
  a76 := Tryz.isAgg310
  z76 := Tryz.sizeOf310
  v76 := Tryz.zeroValue310
  t77 := Tryz.underlying230
  a77 := Tryz.isAgg230
  z77 := Tryz.sizeOf230
  v77 := Tryz.zeroValue230 }
theorem Xos {a b : Int} (ha : 0 ≤ a ∧ a < 4611686018427387904) (hb : 0 ≤ b ∧ b < 4611686018427387904) : IntKind.i64.wrap (a - b) = a - b := by rw [IntKind.wrap_i64]; omega
set_option maxHeartbeats 1000000 in
theorem Xqe (x y : Qaf) (W : World) (hx : 0 ≤ x.Node ∧ x.Node < 4611686018427387904) (hy : 0 ≤ y.Node ∧ y.Node < 4611686018427387904) : Calls Tryz.prog 120 #[.agg #[.int .i64 x.Node, .int .i64 x.Minus], .agg #[.int .i64 y.Node, .int .i64 y.Minus]] W fun e w' => e = .returned (.int .i64 (x.Node - y.Node)) ∧ ∃ q os', w' = grow (W.drewN q) os' := by
  have hw := Xos hx hy
  go_enter Tryz.func120, Tryz.ntmps120
  go_wp2
  go_ret
  exact ⟨rfl, 0, _, by rw [alloc_eq_grow, alloc_eq_grow, grow_grow]; rfl⟩
theorem Xga {l m : List Qaf} (hm : Xc6 Qaf.Node l = some m) (w : World) (z g : Nat) (v : Value) (h : Own w z g 131 2 v (l.map Qaf.cs)) : Calls Tryz.prog 119 [v, .func (.func 120) #[] #[]].toArray w fun e' w' => ∃ v', e' = .returned v' ∧ (Own w' z g 131 2 v (m.map Qaf.cs) ∧ Kz [(z, g)] w w') :=
  Xji (ρ := Qxc) Qaf.cs 2 (fun _ => rfl) (fun x => Qaf.cs_ones x) (by decide) Qaf.Node 120 Xps (fun _ => by kernel_rfl) (fun _ => by kernel_rfl) (fun _ _ => by kernel_rfl) (fun x y W hx hy => Xqe x y W hx hy) hm w z g 131 v h
end Go.Proofs.YtjdffpglgkefmaaGreat.Mx

end
section
set_option linter.unusedVariables false
set_option linter.unusedSimpArgs false
namespace Go.Sx
open Go
theorem Qe1 {n : Nat} (h : n < 9223372036854775808) : n < Qcw := by unfold Qcw; omega
theorem Qdt {n : Int} (h0 : -9223372036854775808 ≤ n) (h1 : n ≤ 9223372036854775807) : w64 n = n := by
  have := IntKind.wrap_i64 n
  unfold w64; rw [this]; omega
theorem bind_some {α β : Type} (a : α) (f : α → Option β) : Option.bind (some a) f = f a := rfl
theorem Qhv {α : Type} {b : Nat} {l m : List α} (h : (l.length + m.length) * b ≤ 140737488355328) : Quc b l m = some (l ++ m) := if_pos h
theorem Qcb {α : Type} {l : List α} {i : Nat} (h : i < l.length) : Qg0 l (i : Int) = some l[i] := by unfold Qg0; rw [if_pos (by omega)]; simp [h]
theorem Qmk {α : Type} (l : List α) (i : Nat) (h : i < l.length) : l.take (i + 1) = l.take i ++ [l[i]] := by rw [List.take_add_one]; simp [h]
def w8 (x : BitVec 64) : List (BitVec 8) := [byt x 0, byt x 1, byt x 2, byt x 3, byt x 4, byt x 5, byt x 6, byt x 7]
theorem Qxn (x : BitVec 64) : (w8 x).length = 8 := rfl
end Go.Sx

end
section
set_option linter.unusedVariables false
set_option linter.unusedSimpArgs false
namespace Go.Sx
open Go
theorem Qdj (n k : Nat) (h : 2 ^ k ≤ n) : Nat.log2 n = Nat.log2 (n / 2 ^ k) + k := by
  induction k generalizing n with
  | zero => simp
  | succ k ih =>
    have h2 : 2 ^ k ≤ n / 2 := by rw [Nat.le_div_iff_mul_le (by omega)]; rw [Nat.pow_succ] at h; omega
    have h1 : 2 ≤ n := by have : 0 < 2 ^ k := Nat.two_pow_pos k; rw [Nat.pow_succ] at h; omega
    rw [Nat.log2_def, if_pos h1, ih (n / 2) h2, Nat.div_div_eq_div_mul, Nat.pow_succ, Nat.mul_comm 2]; omega
theorem Qhd {n : Nat} (h : 2 ≤ n) : Nat.log2 n = Nat.log2 (n / 2) + 1 := by rw [Nat.log2_def, if_pos h]
theorem Qwl {m n : Nat} (h : m ≤ n) : Nat.log2 m ≤ Nat.log2 n := by
  rcases Nat.eq_zero_or_pos m with h0 | h0
  · subst h0; rw [Nat.log2_zero]; omega
  · exact (Nat.le_log2 (by omega)).2 (Nat.le_trans (Nat.log2_self_le (by omega)) h)
theorem Qof {n : Nat} (h : n < 9223372036854775808) : Nat.log2 n ≤ 62 := by
  rcases Nat.eq_zero_or_pos n with h0 | h0
  · subst h0; rw [Nat.log2_zero]; omega
  · have : Nat.log2 n < 63 := (Nat.log2_lt (by omega)).2 (by omega)
    omega
theorem Xqb {n : Nat} (h : n < 9223372036854775808) : un (wd (n : Int)) = (n : Int) := Xky _ (by omega) (by omega)
theorem Xrw {n : Nat} (h : 1 ≤ n) : lg (n : Int) = (Nat.log2 n : Int) + 1 := by unfold lg; rw [Int.toNat_natCast, if_neg (by omega)]
theorem Qsr {n : Nat} (h1 : 1 ≤ n) (h : n < 9223372036854775808) : Qcq (n : Int) = some (Nat.log2 n : Int) := by
  have := Qof h
  unfold Qcq
  rw [Xqb h, Xrw h1, Qdt (by omega) (by omega), Int.add_sub_cancel]
theorem Xuk (n : Nat) (h : n < 9223372036854775808) : Qzh (n : Int) 2 = some ((n / 2 : Nat) : Int) := by
  unfold Qzh
  rw [if_neg (by decide), show (n : Int).tdiv 2 = ((n / 2 : Nat) : Int) from by rw [Int.tdiv_eq_ediv_of_nonneg (by omega)]; omega, Qdt (by omega) (by omega)]
theorem Qvf : ∀ (f n k : Nat), n < 9223372036854775808 → Nat.log2 n < f → k + Nat.log2 n ≤ 1000 → Qc3 Qnz f ((n : Int), (k : Int)) = some ((k + Nat.log2 n : Nat) : Int)
  | 0, n, k, _, h, _ => by omega
  | f + 1, n, k, h, hf, hk => by
    rw [Qbn]; simp only [Qnz]
    by_cases h2 : 2 ≤ n
    · have hh := Qhd h2
      rw [if_pos (by omega), Xuk n h, bind_some, Qdt (by omega) (by omega)]
      have := Qvf f (n / 2) (k + 1) (by omega) (by omega) (by omega)
      rw [show (k : Int) + 1 = ((k + 1 : Nat) : Int) from by omega, this, hh]; congr 2; omega
    · rw [if_neg (by omega)]
      have : Nat.log2 n = 0 := by rw [Nat.log2_def, if_neg (by omega)]
      rw [this, Nat.add_zero]
theorem Xhf {n : Nat} (h : n < 9223372036854775808) : Qs3 (n : Int) = some (Nat.log2 n : Int) := by
  have := Qof h
  have := Qvf Qcw n 0 h (Qe1 (by omega)) (by omega)
  unfold Qs3
  rw [show (0 : Int) = ((0 : Nat) : Int) from rfl, this, Nat.zero_add]
def Qba (w v : Nat) : Bool := decide (Nat.log2 v ≤ Nat.log2 w ∧ w / 2 ^ (Nat.log2 w - Nat.log2 v) = v)
theorem Xbr {w v : Nat} (hv : 1 ≤ v) (h : v < w) : Qba w v = Qba (w / 2) v := by
  have hh := Qhd (n := w) (by omega)
  have hm := Qwl (Nat.le_of_lt h)
  unfold Qba
  by_cases hl : Nat.log2 v ≤ Nat.log2 (w / 2)
  · have e : Nat.log2 w - Nat.log2 v = (Nat.log2 (w / 2) - Nat.log2 v) + 1 := by omega
    have e2 : w / 2 ^ (Nat.log2 w - Nat.log2 v) = w / 2 / 2 ^ (Nat.log2 (w / 2) - Nat.log2 v) := by rw [e, Nat.div_div_eq_div_mul, Nat.pow_succ, Nat.mul_comm 2]
    rw [e2]
    apply decide_eq_decide.2
    constructor
    · rintro ⟨_, h2⟩; exact ⟨hl, h2⟩
    · rintro ⟨_, h2⟩; exact ⟨hm, h2⟩
  · rw [decide_eq_false (p := _ ∧ w / 2 / 2 ^ _ = v) (fun hc => hl hc.1)]
    apply decide_eq_false
    rintro ⟨_, h2⟩
    rw [show Nat.log2 w - Nat.log2 v = 0 from by omega, Nat.pow_zero, Nat.div_one] at h2
    omega
theorem Xh3 {w v : Nat} (hw : 1 ≤ w) (h : w ≤ v) : Qba w v = decide (w = v) := by
  unfold Qba
  by_cases e : w = v
  · subst e; simp
  · rw [decide_eq_false e]
    apply decide_eq_false
    rintro ⟨h1, h2⟩
    have := Qwl h
    rw [show Nat.log2 w - Nat.log2 v = 0 from by omega, Nat.pow_zero, Nat.div_one] at h2
    exact e h2
theorem Qyw (n k : Nat) (hk : k ≤ 64) : Xk0 (n : Int) k = ((n / 2 ^ k : Nat) : Int) := by
  unfold Xk0
  rw [Nat.min_eq_left hk, Int.natCast_ediv, Int.natCast_pow]; rfl
theorem Qt0 {w v : Nat} (hw : 1 ≤ w) (hv : 1 ≤ v) (hw2 : w < 9223372036854775808) (hv2 : v < 9223372036854775808) : Qbz (w : Int) (v : Int) = some (Qba w v) := by
  have l1 := Qof hw2
  have l2 := Qof hv2
  unfold Qbz Qd0
  rw [if_neg (by omega), if_neg (by omega), Qsr hw hw2, bind_some, Qsr hv hv2, bind_some]
  by_cases h : Nat.log2 w < Nat.log2 v
  · rw [decide_eq_true (by omega)]
    unfold Qba
    rw [decide_eq_false (by omega)]; rfl
  · rw [decide_eq_false (by omega)]
    simp only [cond_false]
    rw [bind_some, bind_some, Qdt (by omega) (by omega)]
    have : shG ((Nat.log2 w : Int) - (Nat.log2 v : Int)) = some (Nat.log2 w - Nat.log2 v) := by unfold shG; rw [if_pos (by omega)]; congr 1; omega
    rw [this, bind_some, Qyw _ _ (by omega)]
    unfold Qba
    congr 1
    apply decide_eq_decide.2
    constructor
    · intro h3; exact ⟨by omega, by omega⟩
    · intro h3; omega
theorem Qvx {v : Nat} (hv : 1 ≤ v) : ∀ (f w : Nat), 1 ≤ w → w < 9223372036854775808 → Nat.log2 w < f → Qc3 (Qo3 (v : Int)) f (w : Int) = some (Qba w v)
  | 0, w, _, _, h => by omega
  | f + 1, w, hw, hw2, hf => by
    rw [Qbn]; simp only [Qo3]
    by_cases h : v < w
    · have hh := Qhd (n := w) (by omega)
      rw [if_pos (by omega), Xuk w hw2, bind_some, Qvx hv f (w / 2) (by omega) (by omega) (by omega), Xbr hv h]
    · rw [if_neg (by omega), Xh3 hw (by omega)]
      congr 1
      apply decide_eq_decide.2; omega
theorem Qog {w v : Nat} (hw : 1 ≤ w) (hv : 1 ≤ v) (hw2 : w < 9223372036854775808) : Qj7 (w : Int) (v : Int) = some (Qba w v) := by
  have := Qof hw2
  exact Qvx hv Qcw w hw hw2 (Qe1 (by omega))
def Qxu (d : Nat) : Nat := if d ≤ 1 then 1 else if d ≤ 4 then 2 else 3
theorem Xdd (d : Nat) : 1 ≤ Qxu d := by unfold Qxu; split; omega; split <;> omega
theorem Qza : ∀ d : Fin 7, Qdq (d.1 : Int) = some ((2 ^ d.1 : Nat) : Int) := by decide +kernel
theorem Qvl {d : Nat} (h : d ≤ 6) : Qdq (d : Int) = some ((2 ^ d : Nat) : Int) := Qza ⟨d, by omega⟩
theorem Xf3 : ∀ d : Fin 7, Qqc (d.1 : Int) = some ((Qxu d.1 : Nat) : Int) := by decide +kernel
theorem Xel {d : Nat} (h : d ≤ 6) : Qqc (d : Int) = some ((Qxu d : Nat) : Int) := Xf3 ⟨d, by omega⟩
theorem Qck {d : Nat} (h : d ≤ 6) : 2 ^ d ≤ 64 := Nat.le_trans (Nat.pow_le_pow_right (by omega) h) (by decide)
theorem Xlf {d : Nat} (h : d ≤ 6) : Qxk 1 d = ((2 ^ d : Nat) : Int) := by
  have := Qck h
  unfold Qxk
  rw [Nat.min_eq_left (by omega), Int.one_mul, show (2 : Int) ^ d = ((2 ^ d : Nat) : Int) from by rw [Int.natCast_pow]; rfl]
  generalize 2 ^ d = m at *
  exact Qdt (by omega) (by omega)
theorem Qp2 (n : Nat) : shG (n : Int) = some n := by unfold shG; rw [if_pos (by omega)]; rfl
theorem Xbj {k : BitVec 8} {d : Nat} {st : Int} (h : d ≤ 6) : Qfh ⟨k, (d : Int), st⟩ = some ((2 ^ d : Nat) : Int) := by
  unfold Qfh
  rw [Qp2, bind_some, Xlf h]
def Xd0 (d : Nat) (v : Int) : Bool := decide (1 ≤ v ∧ v < 2 * (2 ^ d : Nat))
theorem Xl8 {k : BitVec 8} {d : Nat} {st v : Int} (h : d ≤ 6) : Qhj ⟨k, (d : Int), st⟩ v = some (Xd0 d v) := by
  have := Qck h
  unfold Qhj Xd0
  by_cases h1 : 1 ≤ v
  · rw [if_pos h1, Xbj h, bind_some]
    generalize 2 ^ d = m at *
    rw [Qdt (by omega) (by omega)]
    congr 1; apply decide_eq_decide.2; omega
  · rw [if_neg h1]; congr 1; symm; apply decide_eq_false; omega
theorem Qtm {d : Nat} {v : Int} (h : d ≤ 6) : Qqr (d : Int) v = some (Xd0 d v) := by
  have := Qck h
  unfold Qqr Xd0
  by_cases h1 : 1 ≤ v
  · rw [if_pos h1, Qvl h, bind_some]
    generalize 2 ^ d = m at *
    rw [Qdt (by omega) (by omega)]
    congr 1; apply decide_eq_decide.2; omega
  · rw [if_neg h1]; congr 1; symm; apply decide_eq_false; omega
theorem Qv6 {d : Nat} {v : Int} (hd : d ≤ 6) (h : Xd0 d v = true) : ∃ n : Nat, v = (n : Int) ∧ 1 ≤ n ∧ n < 128 := by
  have := Qck hd
  unfold Xd0 at h
  generalize 2 ^ d = m at *
  have := of_decide_eq_true h
  exact ⟨v.toNat, by omega, by omega, by omega⟩
def Qx4 (d v : Nat) : Bool := decide (Nat.log2 v % Qxu d = 0)
theorem Qyo (a b : Nat) (hb : 1 ≤ b) : Qwi (a : Int) (b : Int) = some ((a % b : Nat) : Int) := by
  unfold Qwi
  rw [if_neg (by omega), Int.tmod_eq_emod_of_nonneg (by omega), Int.natCast_emod]
theorem Qta {k : BitVec 8} {d v : Nat} (hv : 1 ≤ v) (hv2 : v < 9223372036854775808) : Qcm ⟨k, (d : Int), (Qxu d : Int)⟩ (v : Int) = some (Qx4 d v) := by
  unfold Qcm Qx4
  rw [Qsr hv hv2, bind_some, Qyo _ _ (Xdd d), bind_some]
  congr 1; apply decide_eq_decide.2; omega
theorem Qrj {d v : Nat} (hd : d ≤ 6) (hv2 : v < 9223372036854775808) : Qjt (d : Int) (v : Int) = some (Qx4 d v) := by
  unfold Qjt Qx4
  rw [Xhf hv2, bind_some, Xel hd, bind_some, Qyo _ _ (Xdd d), bind_some]
  congr 1; apply decide_eq_decide.2; omega
def Qf5 (w : Nat) : Nat → List Nat
  | 0 => []
  | k + 1 => w / 2 ^ k :: Qf5 w k
theorem Qtz (w k : Nat) : Qf5 w (k + 1) = Qf5 (w / 2) k ++ [w] := by
  induction k with
  | zero => simp [Qf5]
  | succ k ih => rw [Qf5, ih, Qf5, List.cons_append, Nat.div_div_eq_div_mul, Nat.pow_succ, Nat.mul_comm 2]
theorem Qod (w k : Nat) : (Qf5 w k).length = k := by
  induction k with
  | zero => rfl
  | succ k ih => simp [Qf5, ih]
theorem Xcv {w k n : Nat} (hk : 2 ^ k ≤ w) (h : n ∈ Qf5 w k) : 1 ≤ n ∧ n ≤ w := by
  induction k with
  | zero => cases h
  | succ k ih =>
    have hk' : 2 ^ k ≤ w := by rw [Nat.pow_succ] at hk; omega
    rcases List.mem_cons.1 h with rfl | h
    · exact ⟨(Nat.le_div_iff_mul_le (Nat.two_pow_pos k)).2 (by omega), Nat.div_le_self _ _⟩
    · exact ih hk' h
theorem Qwe {w k : Nat} (hk : 2 ^ k ≤ w) : Nat.log2 (w / 2 ^ k) = Nat.log2 w - k := by have := Qdj w k hk; omega
theorem Qjw {w k : Nat} (hk : 2 ^ k ≤ w) : 1 ≤ w / 2 ^ k := (Nat.le_div_iff_mul_le (Nat.two_pow_pos k)).2 (by omega)
theorem Xhv {w k : Nat} (hk : 2 ^ (k + 1) ≤ w) (hw : w < 9223372036854775808) : Qdh ((w / 2 ^ (k + 1) : Nat) : Int) (w : Int) = some ((w / 2 ^ k : Nat) : Int) := by
  have hp := Nat.two_pow_pos (k + 1)
  have l1 := Qof hw
  have hl := Qdj w (k + 1) hk
  unfold Qdh
  rw [Qsr (by omega) hw, bind_some, Qsr (Qjw hk) (Nat.lt_of_le_of_lt (Nat.div_le_self _ _) hw), bind_some, Qdt (n := (Nat.log2 w : Int) - (Nat.log2 (w / 2 ^ (k + 1)) : Int)) (by omega) (by omega), Qdt (by omega) (by omega)]
  rw [show (Nat.log2 w : Int) - (Nat.log2 (w / 2 ^ (k + 1)) : Int) - 1 = ((k : Nat) : Int) from by omega, Qp2, bind_some, Qyw _ _ (by omega)]
theorem Xay {w : Nat} (hw : w < 9223372036854775808) : ∀ (k f : Nat), k < f → 2 ^ k ≤ w → Qc3 (Qfd (w : Int)) f ((w / 2 ^ k : Nat) : Int) = some ((Qf5 w k).map Int.ofNat)
  | k, 0, h, _ => by omega
  | 0, f + 1, _, _ => by
    rw [Qbn]; simp only [Qfd]
    rw [if_neg (by simp)]; rfl
  | k + 1, f + 1, h, hk => by
    rw [Qbn]; simp only [Qfd]
    have h1 : w / 2 ^ (k + 1) < w := Nat.div_lt_self (by have := Nat.two_pow_pos (k + 1); omega) (Nat.one_lt_two_pow (by omega))
    rw [if_pos (by omega), Xhv hk hw, bind_some, Xay hw k f (by omega) (by rw [Nat.pow_succ] at hk; omega)]
    rfl
theorem Xho {w k : Nat} (hw : w < 9223372036854775808) (hk : 2 ^ k ≤ w) (hk2 : k ≤ 64) : Qjn ((w / 2 ^ k : Nat) : Int) (w : Int) = some ((Qf5 w k).map Int.ofNat) := Xay hw k Qcw (Qe1 (by omega)) hk
theorem Qyc {w j k : Nat} (hk : 2 ^ k ≤ w) (hj : j < k) : w / 2 ^ j ≠ w / 2 ^ k := fun e => by
  have h1 := Qwe hk
  have h2 := Qwe (w := w) (k := j) (Nat.le_trans (Nat.pow_le_pow_right (by omega) (by omega)) hk)
  have h3 := Qdj w k hk
  rw [e] at h2; omega
theorem Qxi {w k : Nat} (hw : w < 9223372036854775808) (hk : 2 ^ k ≤ w) (hk2 : k ≤ 64) : ∀ (m j f : Nat), j + m = k → m < f → Qc3 (Qm1 ((w / 2 ^ k : Nat) : Int)) f (((w / 2 ^ j : Nat) : Int), (Qf5 w j).map Int.ofNat) = some (((w / 2 ^ k : Nat) : Int) :: (Qf5 w k).map Int.ofNat)
  | m, j, 0, _, h => by omega
  | 0, j, f + 1, hj, _ => by
    obtain rfl : j = k := by omega
    rw [Qbn]; simp only [Qm1]
    rw [if_neg (by simp), Qhv (by simp [Qod]; omega), bind_some]; rfl
  | m + 1, j, f + 1, hj, hf => by
    rw [Qbn]; simp only [Qm1]
    have hne := Qyc hk (show j < k by omega)
    have hlt : w / 2 ^ j < 9223372036854775808 := Nat.lt_of_le_of_lt (Nat.div_le_self _ _) hw
    rw [if_pos (by omega), Qhv (by simp [Qod]; omega), bind_some, Xuk _ hlt, bind_some, Nat.div_div_eq_div_mul, ← Nat.pow_succ]
    exact Qxi hw hk hk2 m (j + 1) f (by omega) (by omega)
theorem Xda {w k : Nat} (hw : w < 9223372036854775808) (hk : 2 ^ k ≤ w) (hk2 : k ≤ 64) : Qqu ((w / 2 ^ k : Nat) : Int) (w : Int) = some (((w / 2 ^ k : Nat) : Int) :: (Qf5 w k).map Int.ofNat) := by
  have := Qxi hw hk hk2 k 0 Qcw (by omega) (Qe1 (by omega))
  rw [Nat.pow_zero, Nat.div_one] at this
  exact this
end Go.Sx

end
section
set_option linter.unusedVariables false
set_option linter.unusedSimpArgs false
namespace Go.Sx
open Go
def zG : Qei := Qei.mk 0#64 0#64 0#64
def Qnf (s : Qa7) : Bool := decide (1#8 ≤ s.Kind ∧ s.Kind ≤ 3#8 ∧ 0 ≤ s.Depth ∧ s.Depth ≤ 6 ∧ s.Degree = 0 ∧ s.Group = zG)
theorem Qpa (s : Qa7) : Qp1 s = some (Qnf s) := by
  unfold Qp1 Qnf zG
  by_cases h1 : 1#8 ≤ s.Kind
  · by_cases h2 : s.Kind ≤ 3#8
    · by_cases h3 : 0 ≤ s.Depth
      · by_cases h4 : s.Depth ≤ 6
        · by_cases h5 : s.Degree = 0
          · simp [h1, h2, h3, h4, h5]
          · simp [h1, h2, h3, h4, h5]
        · simp [h1, h2, h3, h4]
      · simp [h1, h2, h3]
    · simp [h1, h2]
  · simp [h1]
theorem Qoe {s : Qa7} (h : Qnf s = true) : ∃ d : Nat, s.Depth = (d : Int) ∧ d ≤ 6 := by
  unfold Qnf at h
  have := of_decide_eq_true h
  exact ⟨s.Depth.toNat, by omega, by omega⟩
theorem Qsd (s : Qa7) (n : Nat) (a : Int) : Qc3 (Qf9 s) (n + 1) a = if w64 (a * a) < s.Depth then Qc3 (Qf9 s) n (w64 (a + 1)) else some (Qa6.mk s.Kind s.Depth a, true) := rfl
theorem Xc8 (s : Qa7) {d : Nat} (hd : s.Depth = (d : Int)) (h : d ≤ 6) : Qc3 (Qf9 s) Qcw 1 = some (Qa6.mk s.Kind (d : Int) (Qxu d : Int), true) := by
  have e1 : w64 (1 * 1) = 1 := by decide
  have e2 : w64 (1 + 1) = 2 := by decide
  have e3 : w64 (2 * 2) = 4 := by decide
  have e4 : w64 (2 + 1) = 3 := by decide
  have e5 : w64 (3 * 3) = 9 := by decide
  rw [show Qcw = 18446744073709551613 + 3 from rfl, Qsd, e1, e2, hd]
  unfold Qxu
  by_cases h1 : d ≤ 1
  · rw [if_neg (by omega), if_pos h1, ← hd]; rfl
  · rw [if_pos (by omega), if_neg h1, show 18446744073709551613 + 2 = 18446744073709551614 + 1 from rfl, Qsd, e3, e4, hd]
    by_cases h2 : d ≤ 4
    · rw [if_neg (by omega), if_pos h2, ← hd]; rfl
    · rw [if_pos (by omega), if_neg h2, show 18446744073709551614 = 18446744073709551613 + 1 from rfl, Qsd, e5, hd, if_neg (by omega), ← hd]; rfl
def Qds (s : Qa7) : Qa6 := Qa6.mk s.Kind s.Depth (Qxu s.Depth.toNat : Int)
theorem Qpy (s : Qa7) : Qjg s = some (if Qnf s then (Qds s, true) else (Qa6.mk 0#8 0 0, false)) := by
  unfold Qjg Qec
  by_cases hv : Qnf s = true
  · rw [if_pos hv]
    obtain ⟨d, hd, h6⟩ := Qoe hv
    unfold Qnf at hv
    obtain ⟨h1, h2, h3, h4, h5, h7⟩ := of_decide_eq_true hv
    have hs : s = Qa7.mk s.Kind s.Depth 0 (Qei.mk 0#64 0#64 0#64) := by cases s; simp only at *; rw [h5, h7]; rfl
    rw [if_neg (by rw [BitVec.not_lt]; exact h1), if_neg (by rw [BitVec.not_lt]; exact h2), if_neg (by omega), if_neg (by omega), decide_eq_false (by simpa using hs)]
    simp only [cond_false]
    rw [Xc8 s hd h6]
    unfold Qds
    rw [hd, Int.toNat_natCast]
  · rw [if_neg hv]
    have hn : ¬ (1#8 ≤ s.Kind ∧ s.Kind ≤ 3#8 ∧ 0 ≤ s.Depth ∧ s.Depth ≤ 6 ∧ s.Degree = 0 ∧ s.Group = zG) := fun h => hv (by unfold Qnf; exact decide_eq_true h)
    by_cases h1 : s.Kind < 1#8
    · rw [if_pos h1]; rfl
    · rw [if_neg h1]
      by_cases h2 : 3#8 < s.Kind
      · rw [if_pos h2]; rfl
      · rw [if_neg h2]
        by_cases h3 : s.Depth < 0
        · rw [if_pos h3]; rfl
        · rw [if_neg h3]
          by_cases h4 : (6 : Int) < s.Depth
          · rw [if_pos h4]; rfl
          · rw [if_neg h4, decide_eq_true (p := s ≠ _)]
            · rfl
            · intro hs
              refine hn ⟨BitVec.not_lt.1 h1, BitVec.not_lt.1 h2, by omega, by omega, ?_, ?_⟩
              · rw [hs]
              · rw [hs]; rfl
def Xaf (d : Nat) (l : List Nat) : Nat := (l.find? (Qx4 d)).getD 0
theorem Xd8 {k : BitVec 8} {d : Nat} : ∀ (l : List Nat), (∀ n ∈ l, 1 ≤ n ∧ n < 9223372036854775808) →
    itL (Qb3 ⟨k, (d : Int), (Qxu d : Int)⟩) Qbe (l.map Int.ofNat) 0 = some ((Xaf d l : Nat) : Int)
  | [], _ => rfl
  | a :: l, h => by
    rw [List.map_cons, Qkw]
    simp only [Qb3]
    have ha := h a (by simp)
    rw [show (Int.ofNat a) = (a : Int) from rfl, Qta ha.1 ha.2, bind_some]
    unfold Xaf
    rw [List.find?_cons]
    cases hs : Qx4 d a with
    | true => rfl
    | false => exact Xd8 l (fun n hn => h n (by simp [hn]))
theorem Quk {d : Nat} (hd : d ≤ 6) (v m : Nat) (l : List Nat) (hl : l.length ≤ 64) (hb : ∀ n ∈ l, n < 9223372036854775808) : ∀ (r : List Nat) (j f : Nat), j + r.length = l.length → l.drop j = r → r.length < f →
    Qc3 (Qj4 (d : Int) ((v : Int) :: (l ++ [m]).map Int.ofNat)) f ((j + 1 : Nat) : Int) = some ((Xaf d r : Nat) : Int)
  | r, j, 0, _, _, h => by omega
  | [], j, f + 1, hj, hr, _ => by
    rw [Qbn]; simp only [Qj4]
    rw [Qdt (by simp; omega) (by simp; omega), if_neg (by simp; simp at hj; omega)]; rfl
  | a :: r, j, f + 1, hj, hr, hf => by
    rw [Qbn]; simp only [Qj4]
    have hjl : j < l.length := by simp at hj; omega
    have ha : l[j] = a := by
      have := List.drop_eq_getElem_cons hjl; rw [hr] at this; exact (List.cons.inj this).1.symm
    have hr' : l.drop (j + 1) = r := by
      have := List.drop_eq_getElem_cons hjl; rw [hr] at this; exact (List.cons.inj this).2.symm
    have hg : Qg0 ((v : Int) :: (l ++ [m]).map Int.ofNat) ((j + 1 : Nat) : Int) = some (a : Int) := by
      rw [Qcb (by simp; omega)]
      simp only [List.map_append, List.getElem_cons_succ, List.getElem_append_left (show j < (l.map Int.ofNat).length by simpa using hjl), List.getElem_map, ha]; rfl
    rw [Qdt (by simp; omega) (by simp; omega), if_pos (by simp; omega), hg, bind_some, Qrj hd (hb a (by rw [← ha]; exact List.getElem_mem hjl)), bind_some]
    unfold Xaf
    rw [List.find?_cons]
    cases hs : Qx4 d a with
    | true => rfl
    | false =>
      simp only [cond_false]
      rw [Qdt (by simp at hj; omega) (by simp at hj; omega), show ((j + 1 : Nat) : Int) + 1 = ((j + 1 + 1 : Nat) : Int) from by omega]
      exact Quk hd v m l hl hb r (j + 1) f (by simp at hj ⊢; omega) hr' (by simp at hf; omega)
theorem Qkk {m n : Nat} (hm : 1 ≤ m) (hn : 1 ≤ n) (h : Qba m n = true) (hne : m ≠ n) : ∃ k, Nat.log2 m - Nat.log2 n = k + 1 ∧ n = m / 2 ^ (k + 1) ∧ 2 ^ (k + 1) ≤ m := by
  unfold Qba at h
  obtain ⟨h1, h2⟩ := of_decide_eq_true h
  have h3 : Nat.log2 m - Nat.log2 n ≠ 0 := fun e => by rw [e, Nat.pow_zero, Nat.div_one] at h2; exact hne h2
  refine ⟨Nat.log2 m - Nat.log2 n - 1, by omega, ?_, ?_⟩
  · rw [show Nat.log2 m - Nat.log2 n - 1 + 1 = Nat.log2 m - Nat.log2 n from by omega]; exact h2.symm
  · rw [show Nat.log2 m - Nat.log2 n - 1 + 1 = Nat.log2 m - Nat.log2 n from by omega]
    exact Nat.le_trans (Nat.pow_le_pow_right (by omega) (by omega)) (Nat.log2_self_le (by omega))
theorem Xdv {m k : Nat} (h : 2 ^ (k + 1) ≤ m) : 2 ^ k ≤ m / 2 := by rw [Nat.le_div_iff_mul_le (by omega)]; rw [Nat.pow_succ] at h; omega
theorem Xm1 {kd : BitVec 8} {d m k : Nat} (hm : m < 128) (hk : 2 ^ (k + 1) ≤ m) (hk2 : k ≤ 60) : Qe3 ⟨kd, (d : Int), (Qxu d : Int)⟩ ((m / 2 ^ (k + 1) : Nat) : Int) (m : Int) = some ((Xaf d (Qf5 (m / 2) k) : Nat) : Int) := by
  unfold Qe3 Qkt Qbx
  rw [show shG (un 1#64) = some 1 from by decide, bind_some, bind_some, Qyw _ _ (by omega), Nat.pow_one]
  simp only
  have e : m / 2 ^ (k + 1) = m / 2 / 2 ^ k := by rw [Nat.div_div_eq_div_mul, Nat.pow_succ, Nat.mul_comm 2]
  have hp := Xdv hk
  rw [e, Xho (by omega) hp (by omega), bind_some, Xd8 _ (fun n hn => by have := Xcv hp hn; omega), bind_some]
theorem Qx8 {d m k : Nat} (hd : d ≤ 6) (hm : m < 128) (hk : 2 ^ (k + 1) ≤ m) (hk2 : k ≤ 60) : Qlv (d : Int) ((m / 2 ^ (k + 1) : Nat) : Int) (m : Int) = some ((Xaf d (Qf5 (m / 2) k) : Nat) : Int) := by
  have hp := Xdv hk
  unfold Qlv
  rw [Xda (by omega) hk (by omega), bind_some, Qtz]
  have := Quk hd (m / 2 ^ (k + 1)) m (Qf5 (m / 2) k) (by rw [Qod]; omega) (fun n hn => by have := Xcv hp hn; omega) (Qf5 (m / 2) k) 0 Qcw (by omega) rfl (Qe1 (by rw [Qod]; omega))
  exact this
theorem Qub {m k : Nat} (h : 2 ^ k ≤ m) (hm : m < 128) : k ≤ 6 := by
  have h1 := (Nat.le_log2 (n := m) (by have := Nat.two_pow_pos k; omega)).2 h
  have h2 : Nat.log2 m < 7 := (Nat.log2_lt (by have := Nat.two_pow_pos k; omega)).2 (by omega)
  omega
def Qya (s : Qa7) (x : Qaf) : Prop := Xd0 s.Depth.toNat x.Node = true ∧ (s.Kind = 1#8 ∨ x.Minus = 0 ∨ (∃ m n k : Nat, x.Minus = (m : Int) ∧ x.Node = (n : Int) ∧ n = m / 2 ^ (k + 1) ∧ 2 ^ (k + 1) ≤ m ∧ m < 128 ∧ k ≤ 6 ∧ 1 ≤ n))
theorem Xgz (s : Qa7) (hv : Qnf s = true) (x : Qaf) : ∃ b, Qcj (Qds s) x = some b ∧ Qd9 s x = some b ∧ (b = true → Qya s x) := by
  obtain ⟨d, hd, h6⟩ := Qoe hv
  have ht : Qds s = ⟨s.Kind, (d : Int), (Qxu d : Int)⟩ := by unfold Qds; rw [hd, Int.toNat_natCast]
  rw [ht]
  unfold Qcj Qd9
  rw [hd, Xl8 h6, Qtm h6, bind_some, bind_some]
  have hno : false = true → Qya s x := fun h => by cases h
  cases h1 : Xd0 d x.Node with
  | false => exact ⟨false, rfl, rfl, hno⟩
  | true =>
    have hsd : Xd0 s.Depth.toNat x.Node = true := by rw [hd, Int.toNat_natCast]; exact h1
    simp only [Bool.not_true, cond_false]
    obtain ⟨n, hn, hn1, hn2⟩ := Qv6 h6 h1
    by_cases hk : s.Kind = 1#8
    · rw [if_pos hk, if_pos hk]
      unfold Qdr
      rw [cond_true]
      by_cases hm : x.Minus = 0
      · rw [if_pos hm, if_pos hk]; exact ⟨true, rfl, by rw [decide_eq_true hm], fun _ => ⟨hsd, .inl hk⟩⟩
      · rw [if_neg hm]; exact ⟨false, rfl, by rw [decide_eq_false hm], hno⟩
    · rw [if_neg hk, if_neg hk]
      unfold Qdr
      by_cases hm : x.Minus = 0
      · rw [decide_eq_true hm, cond_true, if_pos hm, if_neg hk, if_pos hm]
        exact ⟨_, rfl, rfl, fun _ => ⟨hsd, .inr (.inl hm)⟩⟩
      · rw [decide_eq_false hm, cond_false, if_neg hm, Xl8 h6, Qtm h6, bind_some, bind_some]
        have hf : ∃ b, Qd5 ⟨s.Kind, (d : Int), (Qxu d : Int)⟩ x true = some b ∧ Qe0 s x true = some b ∧ (b = true → Qya s x) := ⟨false, rfl, rfl, hno⟩
        cases h2 : Xd0 d x.Minus with
        | false => exact hf
        | true =>
          rw [Bool.not_true, cond_false, cond_false]
          obtain ⟨m, hm1, hm2, hm3⟩ := Qv6 h6 h2
          by_cases he : x.Minus = x.Node
          · rw [if_pos he, if_pos he]; exact hf
          · have e1 : Qbz x.Minus x.Node = some (Qba m n) := by rw [hm1, hn]; exact Qt0 hm2 hn1 (by omega) (by omega)
            have e2 : Qj7 x.Minus x.Node = some (Qba m n) := by rw [hm1, hn]; exact Qog hm2 hn1 (by omega)
            rw [if_neg he, if_neg he, e1, e2, bind_some, bind_some]
            cases h3 : Qba m n with
            | false => exact hf
            | true =>
              obtain ⟨k, hk0, hk1, hk2⟩ := Qkk hm2 hn1 h3 (by omega)
              have hkl := Qub hk2 hm3
              have hok : ∀ b : Bool, b = true → Qya s x := fun b _ => ⟨hsd, .inr (.inr ⟨m, n, k, hm1, hn, hk1, hk2, hm3, by omega, hn1⟩)⟩
              unfold Qd5 Qe0
              rw [Bool.not_true, cond_false, cond_false]
              by_cases hk3 : s.Kind = 2#8
              · rw [if_pos hk3, if_pos hk3]; exact ⟨true, rfl, rfl, hok true⟩
              · have e3 : Qcm ⟨s.Kind, (d : Int), (Qxu d : Int)⟩ x.Node = some (Qx4 d n) := by rw [hn]; exact Qta hn1 (by omega)
                have e4 : Qjt s.Depth x.Node = some (Qx4 d n) := by rw [hn, hd]; exact Qrj h6 (by omega)
                rw [if_neg hk3, if_neg hk3, e3, e4, bind_some, bind_some]
                cases hs : Qx4 d n with
                | true => exact ⟨true, rfl, rfl, hok true⟩
                | false =>
                  rw [cond_false, cond_false]
                  have e5 : Qe3 ⟨s.Kind, (d : Int), (Qxu d : Int)⟩ x.Node x.Minus = some ((Xaf d (Qf5 (m / 2) k) : Nat) : Int) := by rw [hn, hm1, hk1]; exact Xm1 hm3 hk2 (by omega)
                  have e6 : Qlv s.Depth x.Node x.Minus = some ((Xaf d (Qf5 (m / 2) k) : Nat) : Int) := by rw [hn, hm1, hd, hk1]; exact Qx8 h6 hm3 hk2 (by omega)
                  rw [e5, e6, bind_some]
                  exact ⟨_, rfl, rfl, hok _⟩
end Go.Sx

end
section
set_option linter.unusedVariables false
set_option linter.unusedSimpArgs false
namespace Go.Sx
open Go
theorem Xcu {α σ τ R : Type} (l : List α) (F : (τ → Option R) → τ → Option R) (pk : Nat → σ → τ) (B : α → (σ → Option R) → σ → Option R) (D : σ → Option R)
    (h1 : ∀ rec (j : Nat) (hj : j < l.length) s, F rec (pk j s) = B l[j] (fun s' => rec (pk (j + 1) s')) s) (h2 : ∀ rec s, F rec (pk l.length s) = D s) :
    ∀ (m j f : Nat) (s : σ), j + m = l.length → m < f → Qc3 F f (pk j s) = itL B D (l.drop j) s
  | m, j, 0, s, _, h => by omega
  | 0, j, f + 1, s, hj, _ => by
    have : j = l.length := by omega
    subst this
    rw [Qbn, h2, List.drop_length]; rfl
  | m + 1, j, f + 1, s, hj, hf => by
    have hjl : j < l.length := by omega
    rw [Qbn, h1 _ j hjl, List.drop_eq_getElem_cons hjl, Qkw]
    have : (fun s' => Qc3 F f (pk (j + 1) s')) = itL B D (l.drop (j + 1)) := funext fun s' => Xcu l F pk B D h1 h2 m (j + 1) f s' (by omega) (by omega)
    rw [this]
theorem Qtu {α σ τ R : Type} (l : List α) (F : (τ → Option R) → τ → Option R) (pk : Nat → σ → τ) (B : α → (σ → Option R) → σ → Option R) (D : σ → Option R)
    (h1 : ∀ rec (j : Nat) (hj : j < l.length) s, F rec (pk j s) = B l[j] (fun s' => rec (pk (j + 1) s')) s) (h2 : ∀ rec s, F rec (pk l.length s) = D s) {f : Nat} (hf : l.length < f) (s : σ) : Qc3 F f (pk 0 s) = itL B D l s := by
  have := Xcu l F pk B D h1 h2 l.length 0 f s (by omega) hf
  rwa [List.drop_zero] at this
theorem Qvs {σ τ R : Type} (n : Nat) (F : (τ → Option R) → τ → Option R) (pk : Nat → σ → τ) (B : Nat → (σ → Option R) → σ → Option R) (D : σ → Option R)
    (h1 : ∀ rec (j : Nat) (hj : j < n) s, F rec (pk j s) = B j (fun s' => rec (pk (j + 1) s')) s) (h2 : ∀ rec s, F rec (pk n s) = D s) {f : Nat} (hf : n < f) (s : σ) : Qc3 F f (pk 0 s) = itL B D (List.range n) s :=
  Qtu (List.range n) F pk B D (fun rec j hj s => by rw [List.length_range] at hj; rw [h1 rec j hj, List.getElem_range]) (fun rec s => by rw [List.length_range]; exact h2 rec s) (by rw [List.length_range]; exact hf) s
theorem Xnn {α β σ R : Type} (F : β → (σ → Option R) → σ → Option R) (d : σ → Option R) (g : α → β) (l : List α) : itL F d (l.map g) = itL (fun a => F (g a)) d l := by unfold itL; rw [List.foldr_map]
theorem Xcz {α σ R : Type} (g : σ → α → σ) (F : α → (σ → Option R) → σ → Option R) (d : σ → Option R) (I : Nat → σ → Prop) : ∀ (l : List α) (k : Nat) (s : σ), (∀ j (a : α) s nx, a ∈ l → I j s → F a nx s = nx (g s a)) → (∀ j (a : α) s, a ∈ l → I j s → I (j + 1) (g s a)) → I k s → itL F d l s = d (l.foldl g s)
  | [], k, s, _, _, _ => rfl
  | a :: l, k, s, h, hi, hs => by
    rw [Qkw, h k a s _ (by simp) hs, List.foldl_cons]
    exact Xcz g F d I l (k + 1) (g s a) (fun j b s nx hb => h j b s nx (by simp [hb])) (fun j b s hb => hi j b s (by simp [hb])) (hi k a s (by simp) hs)
theorem Qyy {α β R : Type} (b n : Nat) (p : α → Bool) (f : α → β) (F : α → (List β → Option R) → List β → Option R) (d : List β → Option R) : ∀ (l : List α) (s : List β), (∀ a ∈ l, ∀ nx s, F a nx s = bif p a then Option.bind (Quc b s [f a]) nx else nx s) → (s.length + l.length) * b ≤ 140737488355328 → itL F d l s = d (s ++ (l.filter p).map f)
  | [], s, _, _ => by simp [Xni]
  | a :: l, s, h, hb => by
    have hlen : (s.length + (a :: l).length) * b = (s.length + 1 + l.length) * b := by congr 1; simp; omega
    rw [Qkw, h a (by simp), List.filter_cons]
    cases hp : p a with
    | true =>
      have h2 : (s.length + 1) * b ≤ (s.length + 1 + l.length) * b := Nat.mul_le_mul_right _ (by omega)
      rw [cond_true, Qhv (by simp; omega), bind_some, Qyy b n p f F d l (s ++ [f a]) (fun x hx => h x (by simp [hx])) (by simp; omega)]
      simp
    | false =>
      have h2 : (s.length + l.length) * b ≤ (s.length + 1 + l.length) * b := Nat.mul_le_mul_right _ (by omega)
      rw [cond_false, Qyy b n p f F d l s (fun x hx => h x (by simp [hx])) (by omega)]
      simp
theorem Qv5 {α σ R : Type} (p : α → Bool) (X : α → σ → Option R) (F : α → (σ → Option R) → σ → Option R) (d : σ → Option R) : ∀ (l : List α) (s : σ), (∀ a ∈ l, ∀ nx s, F a nx s = bif p a then X a s else nx s) → itL F d l s = match l.find? p with | some a => X a s | none => d s
  | [], s, _ => rfl
  | a :: l, s, h => by
    rw [Qkw, h a (by simp), List.find?_cons]
    cases hp : p a with
    | true => rfl
    | false => rw [cond_false]; exact Qv5 p X F d l s (fun x hx => h x (by simp [hx]))
theorem Xko {α : Type} (x : α) (l : List α) : yl x (some l) = some (x :: l) := rfl
theorem Qet {n : Nat} (h : n < 9223372036854775807) : w64 ((n : Int) + 1) = ((n + 1 : Nat) : Int) := by rw [Qdt (by omega) (by omega)]; omega
end Go.Sx

end
section
set_option linter.unusedVariables false
set_option linter.unusedSimpArgs false
namespace Go.Sx
open Go
def Qud (leaf : Nat) (v w : Nat) : Bool := Qba leaf v && (decide (w = 0) || !Qba leaf w)
def Xq3 (s : Qa7) (x : Qaf) (n m : Nat) : Prop := x.Node = (n : Int) ∧ x.Minus = (m : Int) ∧ 1 ≤ n ∧ n < 128 ∧ m < 128
theorem Xf6 (s : Qa7) (hv : Qnf s = true) (x : Qaf) (h : Qd9 s x = some true) : ∃ n m : Nat, Xq3 s x n m := by
  obtain ⟨d, hd, h6⟩ := Qoe hv
  unfold Qd9 at h
  rw [hd, Qtm h6, bind_some] at h
  cases h1 : Xd0 d x.Node with
  | false => rw [h1] at h; simp at h
  | true =>
    obtain ⟨n, hn, hn1, hn2⟩ := Qv6 h6 h1
    rw [h1] at h
    simp only [Bool.not_true, cond_false] at h
    by_cases hm : x.Minus = 0
    · exact ⟨n, 0, hn, by simpa using hm, hn1, hn2, by omega⟩
    · by_cases hk : s.Kind = 1#8
      · rw [if_pos hk, decide_eq_false hm] at h; simp at h
      · rw [if_neg hk, if_neg hm, Qtm h6, bind_some] at h
        cases h2 : Xd0 d x.Minus with
        | false => rw [h2] at h; simp [Qe0] at h
        | true =>
          obtain ⟨m, hm1, hm2, hm3⟩ := Qv6 h6 h2
          exact ⟨n, m, hn, hm1, hn1, hn2, hm3⟩
theorem Xoi {k : BitVec 8} {d u : Nat} {st : Int} (h : d ≤ 6) (hu : u < 128) : Qff ⟨k, (d : Int), st⟩ (u : Int) = some ((2 ^ d + u : Nat) : Int) := by
  have := Qck h
  unfold Qff
  rw [Xbj h, bind_some]
  generalize 2 ^ d = m at *
  rw [Qdt (by omega) (by omega)]; congr 1
theorem Xgj (s : Qa7) : Qdb s ([] : List Qaf) = some (if Qnf s then (Qds s, 0) else (Qa6.mk 0#8 0 0, 30)) := by
  unfold Qdb
  rw [Qpy, bind_some]
  cases hv : Qnf s with
  | false => rfl
  | true => rfl
theorem Xpp (s : Qa7) (hv : Qnf s = true) (x : Qaf) : ∃ b, Qdb s [x] = some (if b then (Qds s, 0) else (Qa6.mk 0#8 0 0, 31)) ∧ Qd9 s x = some b ∧ Qcj (Qds s) x = some b ∧ (b = true → Qya s x ∧ ∃ n m, Xq3 s x n m) := by
  obtain ⟨b, e1, e2, e3⟩ := Xgz s hv x
  refine ⟨b, ?_, e2, e1, fun h => ⟨e3 h, Xf6 s hv x (h ▸ e2)⟩⟩
  unfold Qdb
  rw [Qpy, bind_some, if_pos hv]
  show Qc3 (Qf2 [x] (Qds s, true)) (18446744073709551614 + 1 + 1) 0 = _
  rw [Qbn]; simp only [Qf2]
  rw [if_pos (by simp), show Qg0 [x] 0 = some x from rfl, bind_some, e1, bind_some]
  cases b with
  | false => rfl
  | true => rfl
end Go.Sx

end
section
set_option linter.unusedVariables false
set_option linter.unusedSimpArgs false
set_option maxRecDepth 100000
namespace Go.Sx
open Go
def Qux (k : BitVec 8) (d v w : Nat) : Bool := decide (k = 2#8) || Qx4 d v || decide (Xaf d (Qf5 (w / 2) (Nat.log2 w - Nat.log2 v - 1)) = 0)
def Xqv (k : BitVec 8) (d leaf : Nat) : Nat → List (Nat × Nat)
  | 0 => []
  | j + 1 => ((Qf5 leaf (j + 1)).filter fun p => Qux k d (leaf / 2 ^ (j + 1)) (p ^^^ 1)).map (fun p => (leaf / 2 ^ (j + 1), p ^^^ 1)) ++ Xqv k d leaf j
def Qsz (k : BitVec 8) (d u : Nat) : List (Nat × Nat) := (1, 0) :: if k = 1#8 then (Qf5 (2 ^ d + u) d).map (fun p => (p, 0)) else Xqv k d (2 ^ d + u) d
def Xta (k : BitVec 8) (d u : Nat) : List (Int × Int) := (Qsz k d u).map fun x => ((x.1 : Int), (x.2 : Int))
def Xkk (k : BitVec 8) (d u : Nat) : List Qaf := (Qsz k d u).map fun x => Qaf.mk (x.1 : Int) (x.2 : Int)
def Xnu (k : BitVec 8) (d u : Nat) : Bool :=
  decide (Qf8 ⟨k, (d : Int), (Qxu d : Int)⟩ (u : Int) = some (Xta k d u)) && decide (Qo0 ⟨k, (d : Int), 0, zG⟩ (u : Int) = some (Xkk k d u)) && decide ((Qsz k d u).length ≤ 100) &&
    (Qsz k d u).all fun x => decide (1 ≤ x.1 ∧ x.1 < 128 ∧ x.2 < 128) && (decide (x.2 = 0) || (Qba x.2 x.1 && !decide (x.2 = x.1)))
theorem Xrv : ∀ d : Fin 7, (List.range (2 ^ d.1)).all (fun u => Xnu 1#8 d.1 u) = true := by decide +kernel
theorem Xq9 : ∀ d : Fin 6, (List.range (2 ^ d.1)).all (fun u => Xnu 2#8 d.1 u) = true := by decide +kernel
theorem Xsd : (List.range 64).all (fun u => Xnu 2#8 6 u) = true := by decide +kernel
theorem Xrt : ∀ d : Fin 6, (List.range (2 ^ d.1)).all (fun u => Xnu 3#8 d.1 u) = true := by decide +kernel
theorem Xpt : (List.range 64).all (fun u => Xnu 3#8 6 u) = true := by decide +kernel
theorem Qxe {k : BitVec 8} (h1 : 1#8 ≤ k) (h3 : k ≤ 3#8) : k = 1#8 ∨ k = 2#8 ∨ k = 3#8 := by
  have a : 1 ≤ k.toNat := h1
  have b : k.toNat ≤ 3 := h3
  rcases (show k.toNat = 1 ∨ k.toNat = 2 ∨ k.toNat = 3 by omega) with h | h | h
  · exact .inl (BitVec.eq_of_toNat_eq h)
  · exact .inr (.inl (BitVec.eq_of_toNat_eq h))
  · exact .inr (.inr (BitVec.eq_of_toNat_eq h))
theorem Xo9 {k : BitVec 8} {d u : Nat} (h1 : 1#8 ≤ k) (h3 : k ≤ 3#8) (hd : d ≤ 6) (hu : u < 2 ^ d) : Xnu k d u = true := by
  have key : ∀ {n : Nat} {f : Nat → Bool}, (List.range n).all f = true → u < n → f u = true := fun h hu => List.all_eq_true.1 h u (List.mem_range.2 hu)
  rcases Qxe h1 h3 with rfl | rfl | rfl
  · exact key (Xrv ⟨d, by omega⟩) hu
  · rcases Nat.lt_or_ge d 6 with h | h
    · exact key (Xq9 ⟨d, h⟩) hu
    · obtain rfl : d = 6 := by omega
      exact key Xsd hu
  · rcases Nat.lt_or_ge d 6 with h | h
    · exact key (Xrt ⟨d, h⟩) hu
    · obtain rfl : d = 6 := by omega
      exact key Xpt hu
theorem Xe6 {s : Qa7} (h : Qnf s = true) : 1#8 ≤ s.Kind ∧ s.Kind ≤ 3#8 := by
  unfold Qnf at h
  have := of_decide_eq_true h
  exact ⟨this.1, this.2.1⟩
theorem Xhc {s : Qa7} {d : Nat} (h : Qnf s = true) (hd : s.Depth = (d : Int)) : s = ⟨s.Kind, (d : Int), 0, zG⟩ := by
  unfold Qnf at h
  have := of_decide_eq_true h
  cases s; simp only at *; rw [hd, this.2.2.2.2.1, this.2.2.2.2.2]
theorem Xas {s : Qa7} {d u : Nat} (hv : Qnf s = true) (hd : s.Depth = (d : Int)) (h6 : d ≤ 6) (hu : u < 2 ^ d) :
    Qf8 ⟨s.Kind, (d : Int), (Qxu d : Int)⟩ (u : Int) = some (Xta s.Kind d u) ∧ Qo0 s (u : Int) = some (Xkk s.Kind d u) ∧ (Qsz s.Kind d u).length ≤ 100 ∧
    ∀ x ∈ Qsz s.Kind d u, (1 ≤ x.1 ∧ x.1 < 128 ∧ x.2 < 128) ∧ (x.2 = 0 ∨ (Qba x.2 x.1 = true ∧ x.2 ≠ x.1)) := by
  obtain ⟨k1, k3⟩ := Xe6 hv
  have h := Xo9 k1 k3 h6 hu
  unfold Xnu at h
  simp only [Bool.and_eq_true, decide_eq_true_eq, List.all_eq_true, Bool.or_eq_true, Bool.not_eq_true', decide_eq_false_iff_not] at h
  refine ⟨h.1.1.1, ?_, h.1.2, h.2⟩
  rw [Xhc hv hd]; exact h.1.1.2
end Go.Sx

end
section
set_option linter.unusedVariables false
set_option linter.unusedSimpArgs false
set_option maxRecDepth 100000
namespace Go.Sx
open Go
theorem Qbr {w v : Nat} (hw : 1 ≤ w) : Qba w v = true ↔ ∃ k, 2 ^ k ≤ w ∧ v = w / 2 ^ k := by
  constructor
  · intro h
    unfold Qba at h
    obtain ⟨h1, h2⟩ := of_decide_eq_true h
    exact ⟨_, Nat.le_trans (Nat.pow_le_pow_right (by omega) (by omega)) (Nat.log2_self_le (by omega)), h2.symm⟩
  · rintro ⟨k, h1, rfl⟩
    unfold Qba
    have h2 := Qwe h1
    have h3 := Qdj w k h1
    apply decide_eq_true
    refine ⟨by omega, ?_⟩
    rw [h2, show Nat.log2 w - (Nat.log2 w - k) = k from by omega]
theorem Qxo {w : Nat} (hw : 1 ≤ w) : Qba w w = true := (Qbr hw).2 ⟨0, by simpa using hw, by simp⟩
theorem Xa4 {w v : Nat} (hw : 1 ≤ w) (h : Qba w v = true) : 1 ≤ v := by
  obtain ⟨k, h1, rfl⟩ := (Qbr hw).1 h
  exact Qjw h1
theorem Qio {w i j : Nat} (h : 2 ^ (i + j) ≤ w) : 2 ^ j ≤ w / 2 ^ i := by
  rw [Nat.le_div_iff_mul_le (Nat.two_pow_pos i), ← Nat.pow_add, Nat.add_comm]; exact h
theorem Qp8 {w i j : Nat} (h : 2 ^ j ≤ w / 2 ^ i) : 2 ^ (i + j) ≤ w := by
  rw [Nat.le_div_iff_mul_le (Nat.two_pow_pos i), ← Nat.pow_add, Nat.add_comm] at h; exact h
theorem Qmw {a b c : Nat} (ha : 1 ≤ a) (h1 : Qba a b = true) (h2 : Qba b c = true) : Qba a c = true := by
  have hb := Xa4 ha h1
  obtain ⟨i, p1, rfl⟩ := (Qbr ha).1 h1
  obtain ⟨j, p2, rfl⟩ := (Qbr hb).1 h2
  exact (Qbr ha).2 ⟨i + j, Qp8 p2, by rw [Nat.div_div_eq_div_mul, ← Nat.pow_add]⟩
theorem Qsu {w v : Nat} (hw : 1 ≤ w) (h : Qba w v = true) : Nat.log2 v ≤ Nat.log2 w := by
  unfold Qba at h
  exact (of_decide_eq_true h).1
theorem Qmb {a b c : Nat} (ha : 1 ≤ a) (h1 : Qba a b = true) (h2 : Qba a c = true) (he : Nat.log2 b = Nat.log2 c) : b = c := by
  unfold Qba at h1 h2
  have p1 := (of_decide_eq_true h1).2
  have p2 := (of_decide_eq_true h2).2
  rw [he] at p1; rw [← p1, p2]
theorem Qtg : ∀ n : Fin 128, (n.1 ^^^ 1) / 2 = n.1 / 2 ∧ n.1 ^^^ 1 ≠ n.1 ∧ n.1 ^^^ 1 < 128 ∧ (2 ≤ n.1 → Nat.log2 (n.1 ^^^ 1) = Nat.log2 n.1 ∧ 2 ≤ n.1 ^^^ 1) ∧ n.1 ^^^ 1 ^^^ 1 = n.1 := by decide +kernel
theorem Xp7 : ∀ n : Fin 128, ∀ b : Fin 2, (2 * (n.1 / 2) + b.1 = n.1 ∨ 2 * (n.1 / 2) + b.1 = n.1 ^^^ 1) := by decide +kernel
theorem Xqq {a b : Nat} (hb : b < 128) (h : a / 2 = b / 2) (hne : a ≠ b) : a = b ^^^ 1 := by
  have := Xp7 ⟨b, hb⟩ ⟨a % 2, Nat.mod_lt _ (by omega)⟩
  have h2 : 2 * (b / 2) + a % 2 = a := by rw [← h]; omega
  simp only [h2] at this
  rcases this with h3 | h3
  · exact absurd h3 hne
  · exact h3
theorem Qv2 {n : Nat} (h : n < 128) : (n ^^^ 1) / 2 = n / 2 := (Qtg ⟨n, h⟩).1
theorem Xhg {n : Nat} (h : n < 128) : n ^^^ 1 ≠ n := (Qtg ⟨n, h⟩).2.1
theorem Xgo {n : Nat} (h : n < 128) : n ^^^ 1 < 128 := (Qtg ⟨n, h⟩).2.2.1
theorem Qz5 {n : Nat} (h : n < 128) (h2 : 2 ≤ n) : Nat.log2 (n ^^^ 1) = Nat.log2 n := ((Qtg ⟨n, h⟩).2.2.2.1 h2).1
theorem Qon {n : Nat} (h : n < 128) (h2 : 2 ≤ n) : 2 ≤ n ^^^ 1 := ((Qtg ⟨n, h⟩).2.2.2.1 h2).2
theorem Xck {n : Nat} (h : n < 128) : n ^^^ 1 ^^^ 1 = n := (Qtg ⟨n, h⟩).2.2.2.2
theorem Xo4 {n : Nat} (h : n < 128) : Xpb .xor (n : Int) 1 = ((n ^^^ 1 : Nat) : Int) := by
  have : ∀ n : Fin 128, Xpb .xor (n.1 : Int) 1 = ((n.1 ^^^ 1 : Nat) : Int) := by decide +kernel
  exact this ⟨n, h⟩
theorem Qju {w k n : Nat} : n ∈ Qf5 w k ↔ ∃ j, j < k ∧ n = w / 2 ^ j := by
  induction k with
  | zero => simp [Qf5]
  | succ k ih =>
    rw [Qf5, List.mem_cons, ih]
    constructor
    · rintro (rfl | ⟨j, hj, rfl⟩)
      · exact ⟨k, by omega, rfl⟩
      · exact ⟨j, by omega, rfl⟩
    · rintro ⟨j, hj, rfl⟩
      rcases Nat.lt_or_ge j k with h | h
      · exact .inr ⟨j, h, rfl⟩
      · obtain rfl : j = k := by omega
        exact .inl rfl
theorem Qy0 {k : BitVec 8} {d leaf : Nat} {x : Nat × Nat} : ∀ {j : Nat}, x ∈ Xqv k d leaf j ↔ ∃ i t, i < j ∧ t ≤ i ∧ x = (leaf / 2 ^ (i + 1), (leaf / 2 ^ t) ^^^ 1) ∧ Qux k d x.1 x.2 = true
  | 0 => by simp [Xqv]
  | j + 1 => by
    rw [Xqv, List.mem_append, Qy0, List.mem_map]
    constructor
    · rintro (⟨p, hp, rfl⟩ | ⟨i, t, h1, h2, h3⟩)
      · rw [List.mem_filter, Qju] at hp
        obtain ⟨⟨t, ht, rfl⟩, hs⟩ := hp
        exact ⟨j, t, by omega, by omega, rfl, hs⟩
      · exact ⟨i, t, by omega, h2, h3⟩
    · rintro ⟨i, t, h1, h2, rfl, h4⟩
      rcases Nat.lt_or_ge i j with h | h
      · exact .inr ⟨i, t, h, h2, rfl, h4⟩
      · obtain rfl : i = j := by omega
        exact .inl ⟨_, List.mem_filter.2 ⟨Qju.2 ⟨t, by omega, rfl⟩, h4⟩, rfl⟩
theorem Xtp {d : Nat} {l : List Nat} (hl : ∀ n ∈ l, 1 ≤ n) : Xaf d l = 0 ↔ ∀ n ∈ l, Qx4 d n = false := by
  unfold Xaf
  cases h : l.find? (Qx4 d) with
  | none =>
    rw [List.find?_eq_none] at h
    exact ⟨fun _ n hn => by simpa using h n hn, fun _ => rfl⟩
  | some a =>
    have h1 := List.find?_some h
    have h2 := List.mem_of_find?_eq_some h
    constructor
    · intro h0; simp at h0; have := hl a h2; omega
    · intro h0; rw [h0 a h2] at h1; cases h1
theorem Xn3 {k : BitVec 8} {d n m i K : Nat} (hm : m < 128) (hK : 2 ^ K ≤ m) (hn : n = m / 2 ^ K) (hi : i < K) (h : Qux k d n m = true) : Qux k d n (m / 2 ^ i) = true := by
  unfold Qux at h ⊢
  simp only [Bool.or_eq_true, decide_eq_true_eq] at h ⊢
  rcases h with h | h
  · exact .inl h
  · refine .inr ?_
    have hi2 : 2 ^ i ≤ m := Nat.le_trans (Nat.pow_le_pow_right (by omega) (by omega)) hK
    have l1 := Qdj m K hK
    have l2 := Qdj m i hi2
    rw [← hn] at l1
    have hp : ∀ a b, b + 1 ≤ Nat.log2 a → 1 ≤ a → ∀ x ∈ Qf5 (a / 2) b, 1 ≤ x := by
      intro a b hb ha x hx
      obtain ⟨j, hj, rfl⟩ := Qju.1 hx
      rw [Nat.div_div_eq_div_mul, show 2 * 2 ^ j = 2 ^ (j + 1) from by rw [Nat.pow_succ, Nat.mul_comm]]
      exact Qjw ((Nat.le_log2 (by omega)).1 (by omega))
    rw [Xtp (hp _ _ (by omega) (by have := Nat.two_pow_pos K; omega))] at h
    rw [Xtp (hp _ _ (by omega) (Qjw hi2))]
    intro x hx
    obtain ⟨j, hj, rfl⟩ := Qju.1 hx
    refine h _ (Qju.2 ⟨i + j, by omega, ?_⟩)
    rw [Nat.div_div_eq_div_mul, Nat.div_div_eq_div_mul, Nat.div_div_eq_div_mul, Nat.pow_add]
    congr 1
    exact Nat.mul_left_comm _ _ _
theorem Xg5 {f g : Nat → Nat} : ∀ (k : Nat), f 0 = g 0 → f k ≠ g k → ∃ i, i < k ∧ f i = g i ∧ f (i + 1) ≠ g (i + 1)
  | 0, h, hk => absurd h hk
  | k + 1, h, hk => by
    by_cases hk' : f k = g k
    · exact ⟨k, by omega, hk', hk⟩
    · obtain ⟨i, h1, h2⟩ := Xg5 k h hk'
      exact ⟨i, by omega, h2⟩
theorem Xef {leaf n m K k d : Nat} (hl : leaf < 128) (hK : 2 ^ K ≤ leaf) (hn : n = leaf / 2 ^ K) (hk : 2 ^ (k + 1) ≤ m) (hm : m < 128) (hn2 : n = m / 2 ^ (k + 1)) (hle : Nat.log2 m ≤ Nat.log2 leaf) (hnb : Qba leaf m = false) :
    ∃ t i, t < K ∧ i ≤ k ∧ (leaf / 2 ^ t) ^^^ 1 = m / 2 ^ i := by
  have lp : 1 ≤ leaf := by have := Nat.two_pow_pos K; omega
  have l1 := Qdj leaf K hK
  have l2 := Qdj m (k + 1) hk
  rw [← hn] at l1; rw [← hn2] at l2
  have hKk : k + 1 ≤ K := by omega
  obtain ⟨i, hi, e1, e2⟩ := Xg5 (f := fun i => m / 2 ^ (k + 1 - i)) (g := fun i => leaf / 2 ^ (K - i)) (k + 1) (by simp only [Nat.sub_zero]; rw [← hn, ← hn2]) (by
    simp only [Nat.sub_self, Nat.pow_zero, Nat.div_one]
    intro e
    have : Qba leaf m = true := (Qbr lp).2 ⟨K - (k + 1), Nat.le_trans (Nat.pow_le_pow_right (by omega) (by omega)) hK, e⟩
    rw [this] at hnb; cases hnb)
  refine ⟨K - (i + 1), k + 1 - (i + 1), by omega, by omega, ?_⟩
  have hh : ∀ a b, a / 2 ^ (b + 1) = a / 2 ^ b / 2 := fun a b => by rw [Nat.pow_succ, Nat.div_div_eq_div_mul]
  have e3 : m / 2 ^ (k + 1 - (i + 1)) / 2 = leaf / 2 ^ (K - (i + 1)) / 2 := by
    rw [← hh, ← hh, show k + 1 - (i + 1) + 1 = k + 1 - i from by omega, show K - (i + 1) + 1 = K - i from by omega]; exact e1
  exact (Xqq (Nat.lt_of_le_of_lt (Nat.div_le_self _ _) hl) e3 e2).symm
def ldN (k : BitVec 8) (n m : Nat) (a : Nat × Nat) : Bool := if k = 1#8 ∨ m = 0 then decide (a.1 = n ∧ a.2 = m) else decide (a.1 = n ∧ 1 ≤ a.2) && Qba a.2 n && Qba m a.2
def Qx1 (k : BitVec 8) (d n m : Nat) : Bool :=
  decide (1 ≤ n ∧ n < 2 ^ (d + 1)) && (if k = 1#8 then decide (m = 0) else if m = 0 then decide (n = 1) else decide (m < 2 ^ (d + 1) ∧ m ≠ n) && Qba m n && Qux k d n m)
theorem Qt3 {d u : Nat} (hu : u < 2 ^ d) : Nat.log2 (2 ^ d + u) = d := by
  rw [Nat.log2_eq_iff (by have := Nat.two_pow_pos d; omega), Nat.pow_succ]; omega
theorem Qox {d n : Nat} (h1 : 1 ≤ n) (h : n < 2 ^ (d + 1)) : Nat.log2 n ≤ d := by
  have := (Nat.log2_lt (n := n) (k := d + 1) (by omega)).2 h; omega
theorem Xj9 {k : BitVec 8} {d u n m : Nat} (hd : d ≤ 6) (hu : u < 2 ^ d) (h : Qx1 k d n m = true) : (Qsz k d u).any (ldN k n m) = Qud (2 ^ d + u) n m := by
  have h64 := Qck hd
  have hp := Nat.two_pow_pos d
  have hlog := Qt3 hu
  have hpow : 2 ^ (d + 1) = 2 * 2 ^ d := by rw [Nat.pow_succ, Nat.mul_comm]
  have lp : 1 ≤ 2 ^ d + u := by omega
  unfold Qx1 at h
  simp only [Bool.and_eq_true, decide_eq_true_eq] at h
  obtain ⟨⟨hn1, hn2⟩, h⟩ := h
  have anc : Qba (2 ^ d + u) n = true ↔ n = 1 ∨ n ∈ Qf5 (2 ^ d + u) d := by
    rw [Qbr lp, Qju]
    constructor
    · rintro ⟨j, h1, rfl⟩
      have hj : j ≤ d := by have := Qdj _ _ h1; omega
      rcases Nat.lt_or_ge j d with hj2 | hj2
      · exact .inr ⟨j, hj2, rfl⟩
      · obtain rfl : j = d := by omega
        left
        rw [Nat.add_div_left _ hp, Nat.div_eq_of_lt hu]
    · rintro (rfl | ⟨j, hj, rfl⟩)
      · exact ⟨d, by omega, by rw [Nat.add_div_left _ hp, Nat.div_eq_of_lt hu]⟩
      · exact ⟨j, Nat.le_trans (Nat.pow_le_pow_right (by omega) (by omega)) (Nat.le_add_right _ _), rfl⟩
  by_cases hk : k = 1#8
  · rw [if_pos hk, decide_eq_true_eq] at h
    subst h
    unfold Qud Qsz
    rw [if_pos hk, decide_eq_true rfl, Bool.true_or, Bool.and_true, Bool.eq_iff_iff, anc, List.any_cons, Bool.or_eq_true, List.any_map, List.any_eq_true]
    unfold ldN
    simp only [hk, true_or, if_true, decide_eq_true_eq, Function.comp, and_true]
    constructor
    · rintro (h | ⟨x, hx, rfl⟩)
      · exact .inl h.symm
      · exact .inr hx
    · rintro (h | h)
      · exact .inl h.symm
      · exact .inr ⟨n, h, rfl⟩
  · rw [if_neg hk] at h
    by_cases hm : m = 0
    · rw [if_pos hm, decide_eq_true_eq] at h
      subst hm; subst h
      unfold Qud
      rw [decide_eq_true rfl, Bool.true_or, Bool.and_true, anc.2 (.inl rfl), List.any_eq_true]
      exact ⟨(1, 0), by simp [Qsz], by simp [ldN]⟩
    · rw [if_neg hm] at h
      simp only [Bool.and_eq_true, decide_eq_true_eq] at h
      obtain ⟨⟨⟨hm2, hne⟩, hb⟩, hs⟩ := h
      have hm1 : 1 ≤ m := by omega
      obtain ⟨j, hj1, hj2, hj3⟩ := Qkk hm1 hn1 hb hne
      have hlm := Qox hm1 hm2
      unfold Qud
      rw [decide_eq_false hm, Bool.false_or, Bool.eq_iff_iff, List.any_eq_true, Bool.and_eq_true, Bool.not_eq_true']
      have hld : ∀ a, ldN k n m a = true ↔ (a.1 = n ∧ 1 ≤ a.2) ∧ Qba a.2 n = true ∧ Qba m a.2 = true := fun a => by
        unfold ldN; rw [if_neg (by simp [hk, hm])]; simp only [Bool.and_eq_true, decide_eq_true_eq, and_assoc]
      constructor
      · rintro ⟨a, ha, hl⟩
        obtain ⟨⟨e1, e2⟩, e3, e4⟩ := (hld a).1 hl
        unfold Qsz at ha
        rw [if_neg hk] at ha
        rcases List.mem_cons.1 ha with rfl | ha
        · simp at e2
        · obtain ⟨i, t, h1, h2, h3, _⟩ := Qy0.1 ha
          rw [h3] at e1 e2 e3 e4
          simp only at e1 e2 e3 e4
          have hi2 : 2 ^ (i + 1) ≤ 2 ^ d + u := Nat.le_trans (Nat.pow_le_pow_right (by omega) (by omega)) (Nat.le_add_right _ _)
          have ht2 : 2 ^ t ≤ 2 ^ d + u := Nat.le_trans (Nat.pow_le_pow_right (by omega) (by omega)) (Nat.le_add_right _ _)
          refine ⟨(Qbr lp).2 ⟨i + 1, hi2, e1.symm⟩, ?_⟩
          cases hc : Qba (2 ^ d + u) m with
          | false => rfl
          | true =>
            exfalso
            have hlt : (2 ^ d + u) / 2 ^ t < 128 := Nat.lt_of_le_of_lt (Nat.div_le_self _ _) (by omega)
            have lt1 := Qdj _ _ ht2
            have hp2 : 2 ≤ (2 ^ d + u) / 2 ^ t := by
              have hq : 2 ^ (t + 1) ≤ 2 ^ d + u := Nat.le_trans (Nat.pow_le_pow_right (by omega) (by omega)) hi2
              have := Qio (i := t) (j := 1) hq
              simpa using this
            have h5 := Qmw lp hc e4
            have h6 : Qba (2 ^ d + u) ((2 ^ d + u) / 2 ^ t) = true := (Qbr lp).2 ⟨t, ht2, rfl⟩
            exact Xhg hlt (Qmb lp h5 h6 (Qz5 hlt hp2))
      · rintro ⟨h1, h2⟩
        obtain ⟨K, hK1, hK2⟩ := (Qbr lp).1 h1
        obtain ⟨t, i, ht, hi, e⟩ := Xef (d := d) (by omega) hK1 hK2 hj3 (by omega) hj2 (by omega) h2
        have hKd := Qdj _ _ hK1
        have hi2 : 2 ^ i ≤ m := Nat.le_trans (Nat.pow_le_pow_right (by omega) (by omega)) hj3
        refine ⟨(n, m / 2 ^ i), ?_, (hld _).2 ⟨⟨rfl, Qjw hi2⟩, ?_, (Qbr hm1).2 ⟨i, hi2, rfl⟩⟩⟩
        · unfold Qsz
          rw [if_neg hk]
          refine List.mem_cons_of_mem _ (Qy0.2 ⟨K - 1, t, by omega, by omega, ?_, Xn3 (by omega) hj3 hj2 (by omega) hs⟩)
          rw [show K - 1 + 1 = K from by omega, ← hK2, e]
        · refine (Qbr (Qjw hi2)).2 ⟨j + 1 - i, ?_, ?_⟩
          · exact Qio (by rw [show i + (j + 1 - i) = j + 1 from by omega]; exact hj3)
          · rw [Nat.div_div_eq_div_mul, ← Nat.pow_add, show i + (j + 1 - i) = j + 1 from by omega]; exact hj2
end Go.Sx

end
section
set_option linter.unusedVariables false
set_option linter.unusedSimpArgs false
set_option maxRecDepth 100000
namespace Go.Sx
open Go
def Qib (d : Nat) (R : List Nat) (v : Nat) : Bool := R.any fun u => Qba (2 ^ d + u) v
theorem Qnu {d : Nat} {R : List Nat} {v : Nat} : Qib d R v = true ↔ ∃ u ∈ R, Qba (2 ^ d + u) v = true := by unfold Qib; rw [List.any_eq_true]
theorem Xi4 : ∀ n : Fin 64, (2 * n.1) ^^^ 1 = 2 * n.1 + 1 ∧ (2 * n.1 + 1) ^^^ 1 = 2 * n.1 := by decide +kernel
theorem Xsl {n : Nat} (h : n < 64) : (2 * n) ^^^ 1 = 2 * n + 1 := (Xi4 ⟨n, h⟩).1
theorem Xpj {n : Nat} (h : n < 64) : (2 * n + 1) ^^^ 1 = 2 * n := (Xi4 ⟨n, h⟩).2
theorem Qlx (a b : Nat) : a / 2 ^ (b + 1) = a / 2 ^ b / 2 := by rw [Nat.pow_succ, Nat.div_div_eq_div_mul]
theorem Qth {L v : Nat} (hL : 1 ≤ L) (hlt : Nat.log2 v < Nat.log2 L) (hv : 1 ≤ v) : Qba L v = (Qba L (2 * v) || Qba L (2 * v + 1)) := by
  rw [Bool.eq_iff_iff, Bool.or_eq_true, Qbr hL, Qbr hL, Qbr hL]
  constructor
  · rintro ⟨k, h1, h2⟩
    have hl := Qdj L k h1
    rw [← h2] at hl
    obtain ⟨j, rfl⟩ : ∃ j, k = j + 1 := ⟨k - 1, by omega⟩
    have h3 : 2 ^ j ≤ L := Nat.le_trans (Nat.pow_le_pow_right (by omega) (by omega)) h1
    rw [Qlx] at h2
    rcases (show L / 2 ^ j = 2 * v ∨ L / 2 ^ j = 2 * v + 1 by omega) with e | e
    · exact .inl ⟨j, h3, e.symm⟩
    · exact .inr ⟨j, h3, e.symm⟩
  · rintro (⟨j, h1, h2⟩ | ⟨j, h1, h2⟩)
    · exact ⟨j + 1, Qp8 (j := 1) (by rw [← h2]; omega), by rw [Qlx, ← h2]; omega⟩
    · exact ⟨j + 1, Qp8 (j := 1) (by rw [← h2]; omega), by rw [Qlx, ← h2]; omega⟩
theorem Qqs {v b : Nat} (hv : 1 ≤ v) (hb : b < 2) : Nat.log2 (2 * v + b) = Nat.log2 v + 1 := by
  rw [Qhd (by omega), show (2 * v + b) / 2 = v from by omega]
section
variable {d : Nat} {R : List Nat}
def Rcv (d : Nat) (R : List Nat) : Prop := d ≤ 6 ∧ ∀ u ∈ R, u < 2 ^ d
theorem Rcv.leaf (h : Rcv d R) {u : Nat} (hu : u ∈ R) : 1 ≤ 2 ^ d + u ∧ 2 ^ d + u < 128 ∧ Nat.log2 (2 ^ d + u) = d := by
  have := Qck h.1
  have := h.2 u hu
  have := Nat.two_pow_pos d
  exact ⟨by omega, by omega, Qt3 (h.2 u hu)⟩
theorem Xnc {v : Nat} (hv : 1 ≤ v) : v < 2 ^ d ↔ Nat.log2 v < d := by rw [Nat.log2_lt (by omega)]
theorem Qv1 (h : Rcv d R) {v : Nat} (hv : 1 ≤ v) (hl : Nat.log2 v < d) : Qib d R v = (Qib d R (2 * v) || Qib d R (2 * v + 1)) := by
  rw [Bool.eq_iff_iff, Bool.or_eq_true, Qnu, Qnu, Qnu]
  constructor
  · rintro ⟨u, hu, hb⟩
    obtain ⟨h1, h2, h3⟩ := h.leaf hu
    rw [Qth h1 (by omega) hv, Bool.or_eq_true] at hb
    rcases hb with hb | hb
    · exact .inl ⟨u, hu, hb⟩
    · exact .inr ⟨u, hu, hb⟩
  · rintro (⟨u, hu, hb⟩ | ⟨u, hu, hb⟩) <;>
    · obtain ⟨h1, h2, h3⟩ := h.leaf hu
      refine ⟨u, hu, ?_⟩
      rw [Qth h1 (by omega) hv, hb]; simp
theorem Qln (h : Rcv d R) {v : Nat} (hv : Qib d R v = true) : 1 ≤ v ∧ Nat.log2 v ≤ d ∧ v < 2 ^ (d + 1) := by
  obtain ⟨u, hu, hb⟩ := Qnu.1 hv
  obtain ⟨h1, h2, h3⟩ := h.leaf hu
  have hp := Xa4 h1 hb
  have hl := Qsu h1 hb
  rw [h3] at hl
  exact ⟨hp, hl, (Nat.log2_lt (by omega)).1 (by omega)⟩
theorem Xi3 (h : Rcv d R) {v : Nat} (hv : Qib d R v = true) (h2 : 2 ≤ v) : Qib d R (v / 2) = true := by
  obtain ⟨h1, hl, _⟩ := Qln h hv
  have hh := Qhd h2
  rw [Qv1 h (by omega) (by omega)]
  rcases (show 2 * (v / 2) = v ∨ 2 * (v / 2) + 1 = v by omega) with e | e
  · rw [e, hv]; simp
  · rw [e, hv]; simp
theorem Qww (h : Rcv d R) {v : Nat} (hv : Qib d R v = true) : ∀ k, 2 ^ k ≤ v → Qib d R (v / 2 ^ k) = true
  | 0, _ => by simpa using hv
  | k + 1, hk => by
    rw [Qlx]
    have h1 : 2 ^ k ≤ v := Nat.le_trans (Nat.pow_le_pow_right (by omega) (by omega)) hk
    refine Xi3 h (Qww h hv k h1) ?_
    have := Qio (i := k) (j := 1) hk
    simpa using this
def brN (d : Nat) (R : List Nat) (v : Nat) : Bool := Qib d R (2 * v) != Qib d R (2 * v + 1)
def nxN (d : Nat) (R : List Nat) (v : Nat) : Nat := if Qib d R (2 * v) then 2 * v else 2 * v + 1
def Qdp (d : Nat) (R : List Nat) : Nat → Nat → Nat
  | 0, v => v
  | f + 1, v => if brN d R v then Qdp d R f (nxN d R v) else v
theorem Xdj (h : Rcv d R) {v : Nat} (hv : 1 ≤ v) (hb : brN d R v = true) : Nat.log2 v < d ∧ Qib d R v = true := by
  unfold brN at hb
  have hx : Qib d R (2 * v) = true ∨ Qib d R (2 * v + 1) = true := by
    cases h1 : Qib d R (2 * v) <;> cases h2 : Qib d R (2 * v + 1) <;> simp_all
  have hl : Nat.log2 v < d := by
    rcases hx with hx | hx
    · have := (Qln h hx).2.1; have := Qqs hv (b := 0) (by omega); simp at this; omega
    · have := (Qln h hx).2.1; have := Qqs hv (b := 1) (by omega); omega
  refine ⟨hl, ?_⟩
  rw [Qv1 h hv hl]
  rcases hx with hx | hx <;> simp [hx]
def Chn (d : Nat) (R : List Nat) (v w : Nat) : Prop := ∃ k, 2 ^ k ≤ w ∧ v = w / 2 ^ k ∧ ∀ j, j < k → Qib d R (w / 2 ^ j) = true ∧ Qib d R ((w / 2 ^ j) ^^^ 1) = false
theorem Ql4 (h : Rcv d R) : ∀ (f v : Nat), 1 ≤ v → Nat.log2 v ≤ d → d - Nat.log2 v < f → 1 ≤ Qdp d R f v ∧ Nat.log2 (Qdp d R f v) ≤ d ∧ brN d R (Qdp d R f v) = false ∧ Chn d R v (Qdp d R f v)
  | 0, v, _, _, hf => by omega
  | f + 1, v, hv, hl, hf => by
    unfold Qdp
    cases hb : brN d R v with
    | false => exact ⟨by simpa using hv, by simpa using hl, by simpa using hb, ⟨0, by simpa using hv, by simp, fun j hj => by omega⟩⟩
    | true =>
      rw [if_pos rfl]
      obtain ⟨hl2, _⟩ := Xdj h hv hb
      have h64 := Qck h.1
      have hv64 : v < 64 := by have := (Xnc (d := d) hv).2 hl2; omega
      have hc : (nxN d R v) / 2 = v ∧ 2 ≤ nxN d R v ∧ Nat.log2 (nxN d R v) = Nat.log2 v + 1 ∧ Qib d R (nxN d R v) = true ∧ Qib d R (nxN d R v ^^^ 1) = false := by
        unfold nxN
        unfold brN at hb
        cases h1 : Qib d R (2 * v) with
        | true =>
          rw [h1] at hb
          rw [if_pos rfl]
          refine ⟨by omega, by omega, Qqs hv (b := 0) (by omega), h1, ?_⟩
          rw [Xsl hv64]; simpa using hb
        | false =>
          rw [h1] at hb
          rw [if_neg (by simp)]
          refine ⟨by omega, by omega, Qqs hv (b := 1) (by omega), by simpa using hb, ?_⟩
          rw [Xpj hv64]; exact h1
      obtain ⟨c1, c2, c3, c4, c5⟩ := hc
      obtain ⟨g1, g2, g3, k, g4, g5, g6⟩ := Ql4 h f (nxN d R v) (by omega) (by omega) (by omega)
      refine ⟨g1, g2, g3, k + 1, ?_, ?_, ?_⟩
      · exact Qp8 (j := 1) (by rw [← g5]; omega)
      · rw [Qlx, ← g5]; exact c1.symm
      · intro j hj
        rcases Nat.lt_or_ge j k with hjk | hjk
        · exact g6 j hjk
        · obtain rfl : j = k := by omega
          rw [← g5]; exact ⟨c4, c5⟩
def hdN (d : Nat) (R : List Nat) : Nat → Nat → Nat
  | 0, x => x
  | f + 1, x => if x = 1 ∨ Qib d R (x ^^^ 1) = true then x else hdN d R f (x / 2)
def Xb6 (d : Nat) (R : List Nat) (v : Nat) : Bool := decide (v = 1) || Qib d R (v ^^^ 1)
theorem Xht {f x : Nat} (h : Xb6 d R x = true) : hdN d R f x = x := by
  cases f with
  | zero => rfl
  | succ f =>
    unfold hdN
    unfold Xb6 at h
    rw [Bool.or_eq_true, decide_eq_true_eq] at h
    rw [if_pos h]
theorem Qyv {v w : Nat} (hv : Xb6 d R v = true) (hv1 : 1 ≤ v) : ∀ (j k f : Nat), 2 ^ (j + k) ≤ w → v = w / 2 ^ (j + k) → (∀ i, j ≤ i → i < j + k → Qib d R ((w / 2 ^ i) ^^^ 1) = false) → k ≤ f → hdN d R f (w / 2 ^ j) = v
  | j, 0, f, h1, h2, _, _ => by rw [Nat.add_zero] at h2; rw [← h2]; exact Xht hv
  | j, k + 1, 0, h1, h2, h3, hf => by omega
  | j, k + 1, f + 1, h1, h2, h3, hf => by
    unfold hdN
    have h4 := h3 j (by omega) (by omega)
    have h5 : w / 2 ^ j ≠ 1 := by
      have := Qio (w := w) (i := j) (j := 1) (Nat.le_trans (Nat.pow_le_pow_right (by omega) (by omega)) h1)
      simp at this; omega
    rw [if_neg (by rw [h4]; simp [h5]), ← Qlx]
    exact Qyv hv hv1 (j + 1) k f (by rw [show j + 1 + k = j + (k + 1) from by omega]; exact h1) (by rw [show j + 1 + k = j + (k + 1) from by omega]; exact h2) (fun i h6 h7 => h3 i (by omega) (by omega)) (by omega)
theorem Qt8 : ∀ (f x : Nat), 1 ≤ x → Nat.log2 x < f → Xb6 d R (hdN d R f x) = true ∧ ∃ i, 2 ^ i ≤ x ∧ hdN d R f x = x / 2 ^ i ∧ ∀ t, t < i → Xb6 d R (x / 2 ^ t) = false
  | 0, x, _, h => by omega
  | f + 1, x, hx, hf => by
    unfold hdN
    by_cases hc : x = 1 ∨ Qib d R (x ^^^ 1) = true
    · rw [if_pos hc]; exact ⟨by unfold Xb6; simpa using hc, 0, by simpa using hx, by simp, fun t ht => by omega⟩
    · rw [if_neg hc]
      have hx2 : 2 ≤ x := by rw [not_or] at hc; omega
      have hh := Qhd hx2
      obtain ⟨h1, i, h2, h3, h4⟩ := Qt8 f (x / 2) (by omega) (by omega)
      refine ⟨h1, i + 1, ?_, ?_, ?_⟩
      · rw [Nat.pow_succ]; omega
      · rw [h3, Nat.div_div_eq_div_mul, Nat.pow_succ, Nat.mul_comm 2]
      · intro t ht
        cases t with
        | zero => simp only [Nat.pow_zero, Nat.div_one]; unfold Xb6; simpa [not_or] using hc
        | succ t =>
          have := h4 t (by omega)
          rw [Nat.div_div_eq_div_mul, show 2 * 2 ^ t = 2 ^ (t + 1) from by rw [Nat.pow_succ, Nat.mul_comm]] at this; exact this
def Qrr (d v w : Nat) : Nat := Xaf d (Qf5 (w / 2) (Nat.log2 w - Nat.log2 v - 1))
def Xmu (k : BitVec 8) (d : Nat) (R : List Nat) (x : Nat) : Option Nat :=
  if k = 1#8 then (if !Qib d R x && (decide (x = 1) || Qib d R (x / 2)) then some 0 else none)
  else if Qib d R x then
    (if Qdp d R 7 (hdN d R 7 x) = hdN d R 7 x then none
    else if x = hdN d R 7 x then some (if Qux k d (hdN d R 7 x) (Qdp d R 7 (hdN d R 7 x)) then Qdp d R 7 (hdN d R 7 x) else Qrr d (hdN d R 7 x) (Qdp d R 7 (hdN d R 7 x)))
    else if !Qux k d (hdN d R 7 x) (Qdp d R 7 (hdN d R 7 x)) && decide (x = Qrr d (hdN d R 7 x) (Qdp d R 7 (hdN d R 7 x))) then some (Qdp d R 7 (hdN d R 7 x)) else none)
  else none
def Xpa (d : Nat) : List Nat := (List.range (2 ^ (d + 1) - 1)).map (· + 1)
def Qsb (k : BitVec 8) (d : Nat) (R : List Nat) : List (Nat × Nat) := (Xpa d).filterMap fun x => (Xmu k d R x).map fun m => (x, m)
theorem Xhe {x : Nat} : x ∈ Xpa d ↔ 1 ≤ x ∧ x < 2 ^ (d + 1) := by
  unfold Xpa
  rw [List.mem_map]
  constructor
  · rintro ⟨a, ha, rfl⟩; have := List.mem_range.1 ha; omega
  · rintro ⟨h1, h2⟩; exact ⟨x - 1, List.mem_range.2 (by omega), by omega⟩
theorem Qrt {k : BitVec 8} {y : Nat × Nat} : y ∈ Qsb k d R ↔ (1 ≤ y.1 ∧ y.1 < 2 ^ (d + 1)) ∧ Xmu k d R y.1 = some y.2 := by
  unfold Qsb
  rw [List.mem_filterMap]
  constructor
  · rintro ⟨x, hx, he⟩
    obtain ⟨m, hm, rfl⟩ := Option.map_eq_some_iff.1 he
    exact ⟨Xhe.1 hx, hm⟩
  · rintro ⟨h1, h2⟩; exact ⟨y.1, Xhe.2 h1, by rw [h2]; rfl⟩
def Asc (l : List (Nat × Nat)) : Prop := l.Pairwise fun a b => a.1 < b.1
theorem Xc7 {k : BitVec 8} : Asc (Qsb k d R) := by
  unfold Asc Qsb
  rw [List.pairwise_filterMap]
  have : (Xpa d).Pairwise fun a b => a < b := by
    unfold Xpa
    rw [List.pairwise_map]
    exact List.pairwise_lt_range.imp (by omega)
  refine this.imp ?_
  intro a b hab y hy z hz
  obtain ⟨_, _, rfl⟩ := Option.map_eq_some_iff.1 hy
  obtain ⟨_, _, rfl⟩ := Option.map_eq_some_iff.1 hz
  exact hab
theorem Xi9 : ∀ {l m : List (Nat × Nat)}, Asc l → Asc m → (∀ y, y ∈ l ↔ y ∈ m) → l = m
  | [], [], _, _, _ => rfl
  | [], b :: m, _, _, h => absurd ((h b).2 (by simp)) (by simp)
  | a :: l, [], _, _, h => absurd ((h a).1 (by simp)) (by simp)
  | a :: l, b :: m, hl, hm, h => by
    have ha := List.pairwise_cons.1 hl
    have hb := List.pairwise_cons.1 hm
    have hab : a = b := by
      rcases List.mem_cons.1 ((h a).1 (by simp)) with e | e
      · exact e
      · rcases List.mem_cons.1 ((h b).2 (by simp)) with e2 | e2
        · exact e2.symm
        · have := ha.1 b e2; have := hb.1 a e; omega
    subst hab
    congr 1
    refine Xi9 ha.2 hb.2 fun y => ?_
    constructor
    · intro hy
      rcases List.mem_cons.1 ((h y).1 (by simp [hy])) with e | e
      · subst e; have := ha.1 y hy; omega
      · exact e
    · intro hy
      rcases List.mem_cons.1 ((h y).2 (by simp [hy])) with e | e
      · subst e; have := hb.1 y hy; omega
      · exact e
def Xbx (k : BitVec 8) (d : Nat) (R : List Nat) (v : Nat) : List (Nat × Nat) :=
  if k = 1#8 then (if v ≠ 1 ∧ Qib d R (v ^^^ 1) = false then [(v ^^^ 1, 0)] else [])
  else if Xb6 d R v then (if Qdp d R 7 v = v then [] else if Qux k d v (Qdp d R 7 v) then [(v, Qdp d R 7 v)] else [(v, Qrr d v (Qdp d R 7 v)), (Qrr d v (Qdp d R 7 v), Qdp d R 7 v)])
  else []
def Qwx (k : BitVec 8) (d : Nat) (R : List Nat) (y : Nat × Nat) : Nat := if k = 1#8 then y.1 ^^^ 1 else hdN d R 7 y.1
theorem Qss {k : BitVec 8} {v w : Nat} (hK : 2 ^ k.toNat ≤ w ∨ True) {K : Nat} (h1 : 2 ^ K ≤ w) (h2 : v = w / 2 ^ K) (hv : 1 ≤ v) (hs : Qux k d v w = false) : ∃ j, 1 ≤ j ∧ j < K ∧ Qrr d v w = w / 2 ^ j := by
  have hl := Qdj w K h1
  rw [← h2] at hl
  unfold Qux at hs
  simp only [Bool.or_eq_false_iff, decide_eq_false_iff_not] at hs
  have h0 : Qrr d v w ≠ 0 := hs.2
  unfold Qrr at h0 ⊢
  unfold Xaf at h0 ⊢
  cases hf : (Qf5 (w / 2) (Nat.log2 w - Nat.log2 v - 1)).find? (Qx4 d) with
  | none => rw [hf] at h0; simp at h0
  | some c =>
    obtain ⟨j, hj, rfl⟩ := Qju.1 (List.mem_of_find?_eq_some hf)
    refine ⟨j + 1, by omega, by omega, ?_⟩
    rw [Option.getD_some, Nat.div_div_eq_div_mul, show 2 * 2 ^ j = 2 ^ (j + 1) from by rw [Nat.pow_succ, Nat.mul_comm]]
theorem Qyb (h : Rcv d R) {k : BitVec 8} (hne : R ≠ []) {v : Nat} (hv : Qib d R v = true) (y : Nat × Nat) : (y ∈ Qsb k d R ∧ Qwx k d R y = v) ↔ y ∈ Xbx k d R v := by
  have h64 := Qck h.1
  have hpow : 2 ^ (d + 1) = 2 * 2 ^ d := by rw [Nat.pow_succ, Nat.mul_comm]
  obtain ⟨v1, vl, v2⟩ := Qln h hv
  rw [Qrt]
  by_cases hk : k = 1#8
  · unfold Xmu Qwx Xbx
    rw [if_pos hk, if_pos hk, if_pos hk]
    have hroot : Qib d R 1 = true := by
      obtain ⟨u, hu⟩ := List.exists_mem_of_ne_nil R hne
      obtain ⟨l1, l2, l3⟩ := h.leaf hu
      exact Qnu.2 ⟨u, hu, (Qbr l1).2 ⟨d, by omega, by rw [Nat.add_div_left _ (Nat.two_pow_pos d), Nat.div_eq_of_lt (h.2 u hu)]⟩⟩
    constructor
    · rintro ⟨⟨⟨y1, y2⟩, hm⟩, rfl⟩
      split at hm
      · rename_i hc
        simp only [Bool.and_eq_true, Bool.not_eq_true', Bool.or_eq_true, decide_eq_true_eq] at hc
        have hy0 : y.2 = 0 := (Option.some.inj hm).symm
        have hyn : y.1 ≠ 1 := fun e => by rw [e] at hc; rw [hroot] at hc; simp at hc
        have hss := Xck (n := y.1) (by omega)
        rw [hss]
        have hs1 : y.1 ^^^ 1 ≠ 1 := by have := Qon (n := y.1) (by omega) (by omega); omega
        rw [if_pos ⟨hs1, hc.1⟩]
        simp only [List.mem_singleton]
        cases y; simp only at *; rw [hy0]
      · cases hm
    · intro hy
      split at hy
      · rename_i hc
        simp only [List.mem_singleton] at hy
        subst hy
        simp only
        have hv2 : 2 ≤ v := by omega
        have e1 := Xgo (n := v) (by omega)
        have e2 := Qon (n := v) (by omega) hv2
        have e3 := Qz5 (n := v) (by omega) hv2
        refine ⟨⟨⟨by omega, ?_⟩, ?_⟩, Xck (by omega)⟩
        · exact (Nat.log2_lt (by omega)).1 (by omega)
        · rw [if_pos]
          simp only [Bool.and_eq_true, Bool.not_eq_true', Bool.or_eq_true, decide_eq_true_eq]
          refine ⟨hc.2, .inr ?_⟩
          rw [Qv2 (by omega)]; exact Xi3 h hv hv2
      · cases hy
  · unfold Xmu Qwx Xbx
    rw [if_neg hk, if_neg hk, if_neg hk]
    constructor
    · rintro ⟨⟨⟨y1, y2⟩, hm⟩, rfl⟩
      have hl7 : Nat.log2 y.1 < 7 := by have := (Nat.log2_lt (n := y.1) (k := d + 1) (by omega)).2 y2; have := h.1; omega
      rw [if_pos (Qt8 7 y.1 y1 hl7).1]
      generalize hdN d R 7 y.1 = v at *
      generalize Qdp d R 7 v = w at *
      split at hm
      · split at hm
        · cases hm
        · rename_i h1 h2
          rw [if_neg h2]
          split at hm
          · rename_i h3
            have hm' := Option.some.inj hm
            split
            · rename_i h4
              rw [if_pos h4] at hm'
              simp only [List.mem_singleton]; cases y; simp only at *; rw [h3, hm']
            · rename_i h4
              rw [if_neg h4] at hm'
              simp only [List.mem_cons, List.not_mem_nil, or_false]; left; cases y; simp only at *; rw [h3, hm']
          · split at hm
            · rename_i h3 h4
              simp only [Bool.and_eq_true, Bool.not_eq_true', decide_eq_true_eq] at h4
              rw [if_neg (by rw [h4.1]; simp)]
              simp only [List.mem_cons, List.not_mem_nil, or_false]; right
              have hm' := Option.some.inj hm
              cases y; simp only at *; rw [← h4.2, hm']
            · cases hm
      · cases hm
    · intro hy
      split at hy
      · rename_i hh
        obtain ⟨w1, w2, w3, K, w4, w5, w6⟩ := Ql4 h 7 v v1 vl (by have := h.1; omega)
        generalize hw : Qdp d R 7 v = w at *
        have hs : hdN d R 7 v = v := Xht hh
        split at hy
        · cases hy
        · rename_i hne2
          split at hy
          · rename_i h4
            simp only [List.mem_singleton] at hy
            subst hy
            simp only [hs, hw, hv, if_true, if_neg hne2, h4]
            exact ⟨⟨⟨v1, v2⟩, trivial⟩, trivial⟩
          · rename_i h4
            have h4' : Qux k d v w = false := by simpa using h4
            simp only [List.mem_cons, List.not_mem_nil, or_false] at hy
            rcases hy with rfl | rfl
            · simp only [hs, hw, hv, if_true, if_neg hne2, h4', Bool.false_eq_true, if_false]
              exact ⟨⟨⟨v1, v2⟩, trivial⟩, trivial⟩
            · obtain ⟨j, j1, j2, j3⟩ := Qss (k := k) (d := d) (.inr trivial) w4 w5 v1 h4'
              have hlw := Qdj w K w4
              have hKd : K ≤ 6 := by have := h.1; omega
              have hc : hdN d R 7 (Qrr d v w) = v := by
                rw [j3]
                exact Qyv hh v1 j (K - j) 7 (by rw [show j + (K - j) = K from by omega]; exact w4) (by rw [show j + (K - j) = K from by omega]; exact w5) (fun i _ hi => (w6 i (by omega)).2) (by omega)
              have hj2 : 2 ^ j ≤ w := Nat.le_trans (Nat.pow_le_pow_right (by omega) (by omega)) w4
              have hch : Qib d R (Qrr d v w) = true := by rw [j3]; exact (w6 j j2).1
              have hcv : Qrr d v w ≠ v := by
                rw [j3, w5]; exact Qyc w4 j2
              obtain ⟨c1, _, c3⟩ := Qln h hch
              simp only [hc, hw, hch, if_true, if_neg hne2, if_neg hcv, h4']
              simp only [Bool.not_false, Bool.true_and, decide_true, if_true]
              exact ⟨⟨⟨c1, c3⟩, trivial⟩, trivial⟩
      · cases hy
theorem Xcl (h : Rcv d R) {k : BitVec 8} (hne : R ≠ []) {y : Nat × Nat} (hy : y ∈ Qsb k d R) : Qib d R (Qwx k d R y) = true := by
  have h64 := Qck h.1
  have hpow : 2 ^ (d + 1) = 2 * 2 ^ d := by rw [Nat.pow_succ, Nat.mul_comm]
  obtain ⟨⟨y1, y2⟩, hm⟩ := Qrt.1 hy
  unfold Xmu at hm
  unfold Qwx
  by_cases hk : k = 1#8
  · rw [if_pos hk] at hm ⊢
    split at hm
    · rename_i hc
      simp only [Bool.and_eq_true, Bool.not_eq_true', Bool.or_eq_true, decide_eq_true_eq] at hc
      have hroot : Qib d R 1 = true := by
        obtain ⟨u, hu⟩ := List.exists_mem_of_ne_nil R hne
        obtain ⟨l1, l2, l3⟩ := h.leaf hu
        exact Qnu.2 ⟨u, hu, (Qbr l1).2 ⟨d, by omega, by rw [Nat.add_div_left _ (Nat.two_pow_pos d), Nat.div_eq_of_lt (h.2 u hu)]⟩⟩
      have hyn : y.1 ≠ 1 := fun e => by rw [e] at hc; rw [hroot] at hc; simp at hc
      have hp : Qib d R (y.1 / 2) = true := by
        rcases hc.2 with e | e
        · exact absurd e hyn
        · exact e
      have hlg := Qhd (n := y.1) (by omega)
      have hyl : Nat.log2 y.1 ≤ d := Qox y1 y2
      rw [Qv1 h (by omega) (by omega), Bool.or_eq_true] at hp
      have hz : y.1 / 2 < 64 := by omega
      rcases (show y.1 = 2 * (y.1 / 2) ∨ y.1 = 2 * (y.1 / 2) + 1 by omega) with e | e
      · have h2 : Qib d R (2 * (y.1 / 2)) = false := by rw [← e]; exact hc.1
        have : y.1 ^^^ 1 = 2 * (y.1 / 2) + 1 := by rw [← Xsl hz, ← e]
        rw [this]; rw [h2] at hp; simpa using hp
      · have h2 : Qib d R (2 * (y.1 / 2) + 1) = false := by rw [← e]; exact hc.1
        have : y.1 ^^^ 1 = 2 * (y.1 / 2) := by rw [← Xpj hz, ← e]
        rw [this]; rw [h2] at hp; simpa using hp
    · cases hm
  · rw [if_neg hk] at hm ⊢
    split at hm
    · rename_i hx
      have hl7 : Nat.log2 y.1 < 7 := by have := Qox y1 y2; have := h.1; omega
      obtain ⟨_, i, i1, i2, _⟩ := Qt8 (d := d) (R := R) 7 y.1 y1 hl7
      rw [i2]; exact Qww h hx i i1
    · cases hm
end
end Go.Sx

end
section
set_option linter.unusedVariables false
set_option linter.unusedSimpArgs false
namespace Go.Sx
open Go
def stp (k : W2) (n : Nat) : W2 := if n % 2 = 1 then drv k (un8 32#8) 0#64 else drv k (un8 31#8) 0#64
theorem Xbg : ∀ (l : List Nat) (k : W2), itL Qft Qhc (l.map Int.ofNat) k = some (l.foldl stp k)
  | [], k => rfl
  | a :: l, k => by
    rw [List.map_cons, Qkw]
    simp only [Qft, Qhg]
    rw [show (Int.ofNat a) = (a : Int) from rfl, show (2 : Int) = ((2 : Nat) : Int) from rfl, Qyo a 2 (by omega), bind_some, List.foldl_cons]
    unfold stp
    by_cases h : a % 2 = 1
    · rw [if_pos (by omega), if_pos h]; exact Xbg l _
    · rw [if_neg (by omega), if_neg h]; exact Xbg l _
theorem Qqv {w k : Nat} (key : W2) (hw : w < 9223372036854775808) (hk : 2 ^ k ≤ w) (hk2 : k ≤ 64) : Qeu key ((w / 2 ^ k : Nat) : Int) (w : Int) = some ((Qf5 w k).foldl stp key) := by
  unfold Qeu Qkt
  rw [bind_some]
  simp only
  rw [Xho hw hk hk2, bind_some, Xbg]
theorem Xot (k : W2) (n : Nat) : Qtj k (n : Int) = some (stp k n) := by
  unfold Qtj stp
  rw [show (2 : Int) = ((2 : Nat) : Int) from rfl, Qyo n 2 (by omega), bind_some]
  by_cases h : n % 2 = 1
  · rw [if_neg (by omega), if_pos h]
  · rw [if_pos (by omega), if_neg h]
theorem Xa7 (v : Int) (l : List Nat) (hl : l.length ≤ 1000) : ∀ (r : List Nat) (j f : Nat) (k : W2), j + r.length = l.length → l.drop j = r → r.length < f → Qc3 (Qm5 (v :: l.map Int.ofNat)) f (((j + 1 : Nat) : Int), k) = some (r.foldl stp k)
  | r, j, 0, k, _, _, h => by omega
  | [], j, f + 1, k, hj, hr, _ => by
    rw [Qbn]; simp only [Qm5]
    rw [if_neg (by simp at hj ⊢; omega)]; rfl
  | a :: r, j, f + 1, k, hj, hr, hf => by
    rw [Qbn]; simp only [Qm5]
    have hjl : j < l.length := by simp at hj; omega
    have ha : l[j] = a := by
      have := List.drop_eq_getElem_cons hjl; rw [hr] at this; exact (List.cons.inj this).1.symm
    have hr' : l.drop (j + 1) = r := by
      have := List.drop_eq_getElem_cons hjl; rw [hr] at this; exact (List.cons.inj this).2.symm
    have hg : Qg0 (v :: l.map Int.ofNat) ((j + 1 : Nat) : Int) = some (a : Int) := by
      rw [Qcb (by simp; omega)]
      simp only [List.getElem_cons_succ, List.getElem_map, ha]; rfl
    rw [if_pos (by simp; omega), hg, bind_some, Xot, bind_some, Qdt (by simp at hj; omega) (by simp at hj; omega), show ((j + 1 : Nat) : Int) + 1 = ((j + 1 + 1 : Nat) : Int) from by omega, List.foldl_cons]
    exact Xa7 v l hl r (j + 1) f _ (by simp at hj ⊢; omega) hr' (by simp at hf; omega)
theorem Xbi {w k : Nat} (key : W2) (hw : w < 9223372036854775808) (hk : 2 ^ k ≤ w) (hk2 : k ≤ 64) : Qoi key ((w / 2 ^ k : Nat) : Int) (w : Int) = some ((Qf5 w k).foldl stp key) := by
  unfold Qoi
  rw [Xda hw hk hk2, bind_some]
  exact Xa7 _ (Qf5 w k) (by rw [Qod]; omega) (Qf5 w k) 0 Qcw key (by omega) rfl (Qe1 (by rw [Qod]; omega))
end Go.Sx

end
section
set_option linter.unusedVariables false
set_option linter.unusedSimpArgs false
namespace Go.Sx
open Go
theorem Xag {α : Type} (l : List α) : (l.filter fun _ => true) = l := List.filter_eq_self.2 (by simp)
theorem Xbk {τ R : Type} (F : (τ → Option R) → τ → Option R) (I : Nat → τ → Prop) (n : Nat) (r : Option R) (hs : ∀ j s, j < n → I j s → ∃ s', I (j + 1) s' ∧ ∀ rec, F rec s = rec s') (he : ∀ s, I n s → ∀ rec, F rec s = r) :
    ∀ (m j f : Nat) (s : τ), j + m = n → m < f → I j s → Qc3 F f s = r
  | m, j, 0, s, _, h, _ => by omega
  | 0, j, f + 1, s, hj, _, hi => by
    have : j = n := by omega
    subst this
    rw [Qbn, he s hi]
  | m + 1, j, f + 1, s, hj, hf, hi => by
    obtain ⟨s', h1, h2⟩ := hs j s (by omega) hi
    rw [Qbn, h2]
    exact Xbk F I n r hs he m (j + 1) f s' (by omega) (by omega) h1
end Go.Sx

end
section
set_option linter.unusedVariables false
set_option linter.unusedSimpArgs false
namespace Go.Sx
open Go
def Xhx (root : W2) (k : BitVec 8) (x : Nat × Nat) : W2 :=
  if x.2 = 0 then (if k = 1#8 then drv root (un8 30#8) (wd (x.1 : Int)) else drv root (un8 34#8) 0#64) else (Qf5 x.2 (Nat.log2 x.2 - Nat.log2 x.1)).foldl stp (drv root (un8 30#8) (wd (x.1 : Int)))
def lbl (root : W2) (k : BitVec 8) (x : Nat × Nat) : Qb8 := Qb8.mk (x.1 : Int) (x.2 : Int) (Xhx root k x)
def Xax (root : W2) (k : BitVec 8) (d u : Nat) : List Qb8 := (Qsz k d u).map (lbl root k)
def Xhw (x : Nat × Nat) : Prop := (1 ≤ x.1 ∧ x.1 < 128 ∧ x.2 < 128) ∧ (x.2 = 0 ∨ (Qba x.2 x.1 = true ∧ x.2 ≠ x.1))
theorem Qw7 {x : Nat × Nat} (h : Xhw x) (h0 : x.2 ≠ 0) : ∃ k, Nat.log2 x.2 - Nat.log2 x.1 = k + 1 ∧ x.1 = x.2 / 2 ^ (k + 1) ∧ 2 ^ (k + 1) ≤ x.2 ∧ k ≤ 6 := by
  rcases h.2 with h2 | ⟨h2, h3⟩
  · exact absurd h2 h0
  · obtain ⟨k, e1, e2, e3⟩ := Qkk (by omega) h.1.1 h2 h3
    have := Qub e3 h.1.2.2
    exact ⟨k, e1, e2, e3, by omega⟩
theorem Qxj {root : W2} {s : Qa7} {d u : Nat} (ui : Int) (h : ∀ x ∈ Qsz s.Kind d u, Xhw x) (hl : (Qsz s.Kind d u).length ≤ 100) :
    itL (Qgp root (Qds s, 0)) (Qgn ui) (Xta s.Kind d u) [] = some (Qae.mk ui (Xax root s.Kind d u) (Qah.mk 0#64 0#64), 0) := by
  unfold Xta
  rw [Xnn]
  refine (Qyy 32 0 (fun _ => true) (lbl root s.Kind) _ _ _ _ (fun a ha nx l => ?_) (by simp; omega)).trans (by simp [Qgn, Xax, Xag])
  have hok := h a ha
  simp only [Qgp, Qhy, cond_true]
  by_cases h0 : a.2 = 0
  · rw [if_pos (by omega)]
    have : Qev (Qds s) root (Qaf.mk (a.1 : Int) 0) = some (Xhx root s.Kind a) := by
      unfold Qev Xhx Qfz
      rw [if_pos h0, show (Qds s).kind = s.Kind from rfl]
      by_cases hk : s.Kind = 1#8
      · rw [if_pos hk, if_pos hk]; rfl
      · rw [if_neg hk, if_neg hk, if_pos rfl]
    rw [this, bind_some]; rfl
  · rw [if_neg (by omega)]
    obtain ⟨k, e1, e2, e3, e4⟩ := Qw7 hok h0
    unfold Qfz
    rw [bind_some]
    have : Qeu (drv root (un8 30#8) (wd (a.1 : Int))) (a.1 : Int) (a.2 : Int) = some (Xhx root s.Kind a) := by
      have := Qqv (drv root (un8 30#8) (wd (a.1 : Int))) (w := a.2) (k := k + 1) (by have := hok.1.2.2; omega) e3 (by omega)
      rw [← e2] at this
      rw [this, Xhx, if_neg h0, e1]
    rw [this, bind_some]; rfl
theorem Xed {root : W2} {s : Qa7} {x : Nat × Nat} (h : Xhw x) (hk1 : s.Kind = 1#8 → x.2 = 0) : ∃ k, Qro root s (Qaf.mk (x.1 : Int) (x.2 : Int)) = some k ∧ (x.2 = 0 → k = Xhx root s.Kind x) := by
  unfold Qro Xhx
  by_cases hk : s.Kind = 1#8
  · rw [if_pos hk]; exact ⟨_, rfl, fun h0 => by rw [if_pos h0, if_pos hk]⟩
  · rw [if_neg hk]
    by_cases h0 : x.2 = 0
    · rw [if_pos (by simp [h0])]; exact ⟨_, rfl, fun _ => by rw [if_pos h0, if_neg hk]⟩
    · rw [if_neg (by simp only; omega)]
      obtain ⟨k, e1, e2, e3, e4⟩ := Qw7 h h0
      unfold Qmh
      have := Xbi (drv root (un8 30#8) (wd (x.1 : Int))) (w := x.2) (k := k + 1) (by have := h.1.2.2; omega) e3 (by omega)
      rw [← e2] at this
      simp only
      rw [this, bind_some, bind_some]
      exact ⟨_, rfl, fun h => absurd h h0⟩
theorem Xfu {root : W2} {k' : BitVec 8} {x : Nat × Nat} (h : Xhw x) (h0 : x.2 ≠ 0) : Qmh root (x.1 : Int) (x.2 : Int) = some (Xhx root k' x) := by
  obtain ⟨k, e1, e2, e3, e4⟩ := Qw7 h h0
  unfold Qmh Xhx
  have := Xbi (drv root (un8 30#8) (wd (x.1 : Int))) (w := x.2) (k := k + 1) (by have := h.1.2.2; omega) e3 (by omega)
  rw [← e2] at this
  rw [this, bind_some, if_neg h0, e1]
theorem Xuy {k : BitVec 8} {d u : Nat} (hk : k = 1#8) : ∀ x ∈ Qsz k d u, x.2 = 0 := by
  intro x hx
  unfold Qsz at hx
  rw [if_pos hk] at hx
  rcases List.mem_cons.1 hx with rfl | hx
  · rfl
  · obtain ⟨p, _, rfl⟩ := List.mem_map.1 hx; rfl
theorem Qu3 {root : W2} {s : Qa7} {d u : Nat} (ui : Int) (h : ∀ x ∈ Qsz s.Kind d u, Xhw x) (hl : (Qsz s.Kind d u).length ≤ 100) :
    Qc3 (Qgm root s ui (Xkk s.Kind d u)) Qcw (0, []) = some (Qae.mk ui (Xax root s.Kind d u) (Qah.mk 0#64 0#64)) := by
  have hls : (Xkk s.Kind d u).length = (Qsz s.Kind d u).length := by simp [Xkk]
  have := Qtu (Qsz s.Kind d u) (Qgm root s ui (Xkk s.Kind d u)) (fun j (acc : List Qb8) => ((j : Int), acc)) (fun a nx acc => Option.bind (Quc 32 acc [lbl root s.Kind a]) nx) (fun acc => some (Qae.mk ui acc (Qah.mk 0#64 0#64)))
    (fun rec j hj acc => by
      have hj' : j < (Xkk s.Kind d u).length := by omega
      have hg : (Xkk s.Kind d u)[j] = Qaf.mk ((Qsz s.Kind d u)[j].1 : Int) ((Qsz s.Kind d u)[j].2 : Int) := by simp [Xkk]
      have hok := h _ (List.getElem_mem hj)
      obtain ⟨k, e1, e2⟩ := Xed (root := root) (s := s) hok (fun hk => Xuy hk _ (List.getElem_mem hj))
      simp only [Qgm, Qoh, Qkg]
      rw [if_pos (by omega), Qcb hj', bind_some, hg, e1, bind_some, bind_some]
      simp only [bind_some]
      by_cases h0 : (Qsz s.Kind d u)[j].2 = 0
      · rw [if_neg (by omega), e2 h0, Qet (by omega)]; rfl
      · rw [if_pos (by omega), Xfu (k' := s.Kind) hok h0, bind_some, Qet (by omega)]; rfl)
    (fun rec acc => by simp only [Qgm]; rw [if_neg (by omega)]) (f := Qcw) (Qe1 (by omega)) ([] : List Qb8)
  rw [show ((0 : Nat) : Int) = 0 from rfl] at this
  rw [this]
  exact (Qyy 32 0 (fun _ => true) (lbl root s.Kind) _ _ _ _ (fun a _ nx l => rfl) (by simp; omega)).trans (by simp [Xax, Xag])
theorem Qwr {k : BitVec 8} {d : Nat} {st u : Int} (h : d ≤ 6) : Qdd ⟨k, (d : Int), st⟩ u = some (decide (0 ≤ u ∧ u < ((2 ^ d : Nat) : Int))) := by
  unfold Qdd
  by_cases h0 : (0 : Int) ≤ u
  · rw [if_pos h0, Xbj h, bind_some]; congr 1; apply decide_eq_decide.2; omega
  · rw [if_neg h0]; congr 1; symm; apply decide_eq_false; omega
theorem Xak {d : Nat} {u : Int} (h : d ≤ 6) : Qns (d : Int) u = some (decide (0 ≤ u ∧ u < ((2 ^ d : Nat) : Int))) := by
  unfold Qns
  by_cases h0 : (0 : Int) ≤ u
  · rw [if_pos h0, Qvl h, bind_some]; congr 1; apply decide_eq_decide.2; omega
  · rw [if_neg h0]; congr 1; symm; apply decide_eq_false; omega
def Xt7 : Qae := Qae.mk 0 [] (Qah.mk 0#64 0#64)
def Xme (root : W2) (s : Qa7) (u : Int) : Qae × Int :=
  if Qnf s then (if 0 ≤ u ∧ u < ((2 ^ s.Depth.toNat : Nat) : Int) then (Qae.mk u (Xax root s.Kind s.Depth.toNat u.toNat) (Qah.mk 0#64 0#64), 0) else (Xt7, 2)) else (Xt7, 30)
theorem Xam (root : W2) (s : Qa7) (u : Int) : Ql5 root s u = some (Xme root s u) ∧ Qu9 root s u = some (Xme root s u) ∧ (Xme root s u).1.Labels.length ≤ 100 := by
  unfold Ql5 Qu9 Xme
  rw [Xgj, Qpa, bind_some, bind_some]
  cases hv : Qnf s with
  | false => exact ⟨rfl, rfl, by simp [Xt7]⟩
  | true =>
    obtain ⟨d, hd, h6⟩ := Qoe hv
    have ht : Qds s = ⟨s.Kind, (d : Int), (Qxu d : Int)⟩ := by unfold Qds; rw [hd, Int.toNat_natCast]
    simp only [if_true, Bool.not_true, cond_false]
    rw [if_neg (by simp), hd, Xak h6, Int.toNat_natCast]
    have e0 : Qdd (Qds s) u = some (decide (0 ≤ u ∧ u < ((2 ^ d : Nat) : Int))) := by rw [ht]; exact Qwr h6
    rw [e0, bind_some, bind_some]
    by_cases hu : 0 ≤ u ∧ u < ((2 ^ d : Nat) : Int)
    · rw [decide_eq_true hu, if_pos hu]
      simp only [Bool.not_true, cond_false]
      obtain ⟨n, hn⟩ : ∃ n : Nat, u = (n : Int) := ⟨u.toNat, by omega⟩
      subst hn
      obtain ⟨e1, e2, e3, e4⟩ := Xas (u := n) hv hd h6 (by omega)
      unfold Qii Qrb
      rw [bind_some]
      simp only
      rw [Int.toNat_natCast, ht, e1, e2, bind_some, bind_some, ← ht, Qxj _ e4 e3, Qu3 _ e4 e3, bind_some]
      exact ⟨rfl, rfl, by simpa [Xax] using e3⟩
    · rw [decide_eq_false hu, if_neg hu]; exact ⟨rfl, rfl, by simp [Xt7]⟩
end Go.Sx

end
section
set_option linter.unusedVariables false
set_option linter.unusedSimpArgs false
namespace Go.Sx
open Go
def Xv2 (l : Qb8) : Prop := I64 l.Node ∧ I64 l.Minus
theorem Que {m q : Nat} (hm : 1 ≤ m) (h : Qba m q = true) : ∃ k, q = m / 2 ^ k ∧ 2 ^ k ≤ m := by
  unfold Qba at h
  obtain ⟨h1, h2⟩ := of_decide_eq_true h
  exact ⟨_, h2.symm, Nat.le_trans (Nat.pow_le_pow_right (by omega) (by omega)) (Nat.log2_self_le (by omega))⟩
def Xv1 (l : Qb8) (x : Qaf) : Prop := ∃ q m k : Nat, l.Minus = (q : Int) ∧ x.Minus = (m : Int) ∧ q = m / 2 ^ k ∧ 2 ^ k ≤ m ∧ m < 128 ∧ k ≤ 6
theorem Xkn (s : Qa7) (x : Qaf) (h : Qya s x) (l : Qb8) (hl : Xv2 l) : ∃ b, Qel (Qds s) l x = some b ∧ Qmx s l.Node l.Minus x = some b ∧ (b = true → s.Kind = 1#8 ∨ x.Minus = 0 ∨ Xv1 l x) := by
  unfold Qel Qmx
  rw [show (Qds s).kind = s.Kind from rfl]
  have hno : false = true → s.Kind = 1#8 ∨ x.Minus = 0 ∨ Xv1 l x := fun h => by cases h
  by_cases hk : s.Kind = 1#8
  · rw [if_pos hk, if_pos hk]
    unfold Qcp Qew
    rw [cond_true, cond_true]
    by_cases hn : l.Node = x.Node
    · rw [if_neg (by simp [hn]), if_pos hn]; exact ⟨_, rfl, rfl, fun _ => .inl hk⟩
    · rw [if_pos hn, if_neg hn]; exact ⟨_, rfl, rfl, hno⟩
  · rw [if_neg hk, if_neg hk]
    by_cases hn : l.Node = x.Node
    · rw [if_neg (by simp [hn])]
      unfold Qcp Qew
      by_cases hm : x.Minus = 0
      · rw [decide_eq_true hm, cond_true, cond_true, if_pos hn]; exact ⟨_, rfl, rfl, fun _ => .inr (.inl hm)⟩
      · rw [decide_eq_false hm, cond_false, cond_false, if_pos hn]
        rcases h.2 with h3 | h3 | ⟨m, n, k, hm1, hn1, hk1, hk2, hm2, hk3, hn2⟩
        · exact absurd h3 hk
        · exact absurd h3 hm
        · have hmp : 1 ≤ m := by have := Nat.two_pow_pos (k + 1); omega
          have hnm : n ≤ m := by rw [hk1]; exact Nat.div_le_self _ _
          obtain ⟨b1, b2⟩ := hl
          unfold I64 at b1 b2
          by_cases h1 : (1 : Int) ≤ l.Minus
          · obtain ⟨q, hq⟩ : ∃ q : Nat, l.Minus = (q : Int) := ⟨l.Minus.toNat, by omega⟩
            have e1 : Qbz l.Minus l.Node = some (Qba q n) := by rw [hn, hq, hn1]; exact Qt0 (by omega) hn2 (by omega) (by omega)
            have e2 : Qj7 l.Minus l.Node = some (Qba q n) := by rw [hn, hq, hn1]; exact Qog (by omega) hn2 (by omega)
            have e3 : Qbz x.Minus l.Minus = some (Qba m q) := by rw [hq, hm1]; exact Qt0 hmp (by omega) (by omega) (by omega)
            have e4 : Qj7 x.Minus l.Minus = some (Qba m q) := by rw [hq, hm1]; exact Qog hmp (by omega) (by omega)
            rw [if_pos h1, e1, e2, bind_some, bind_some]
            cases Qba q n with
            | false => exact ⟨_, rfl, rfl, hno⟩
            | true =>
              rw [cond_true, cond_true, e3, e4, bind_some]
              refine ⟨_, rfl, rfl, fun hb => ?_⟩
              obtain ⟨k', h5, h6⟩ := Que hmp hb
              exact .inr (.inr ⟨q, m, k', hq, hm1, h5, h6, hm2, Qub h6 hm2⟩)
          · rw [if_neg h1]
            have e1 : Qbz l.Minus l.Node = some false := by
              unfold Qbz Qd0
              rw [if_pos (by omega)]; rfl
            rw [e1, bind_some]
            exact ⟨_, rfl, rfl, hno⟩
    · rw [if_pos hn]
      unfold Qew
      cases decide (x.Minus = 0) with
      | true => rw [cond_true, if_neg hn]; exact ⟨_, rfl, rfl, hno⟩
      | false => rw [cond_false, if_neg hn]; exact ⟨_, rfl, rfl, hno⟩
theorem Qsg (s : Qa7) (c : Qae) (hc : c.Labels.length < 4611686018427387904) (hok : ∀ l ∈ c.Labels, Xv2 l) (x : Qaf) (h : Qya s x) : ∀ (m j f f' : Nat), c.Labels.length - j = m → j ≤ c.Labels.length → m < f → m < f' →
    ∃ r, Qc3 (Qcl (Qds s) c x) f (j : Int) = some r ∧ Qc3 (Qnn s c x) f' (j : Int) = some r
  | m, j, 0, _, _, _, h, _ => by omega
  | m, j, _ + 1, 0, _, _, _, h => by omega
  | 0, j, f + 1, f' + 1, hm, hj, _, _ => by
    rw [Qbn, Qbn]; simp only [Qcl, Qnn]
    rw [if_neg (by omega), if_neg (by omega)]
    exact ⟨_, rfl, rfl⟩
  | m + 1, j, f + 1, f' + 1, hm, hj, hf, hf' => by
    rw [Qbn, Qbn]; simp only [Qcl, Qnn]
    have hjl : j < c.Labels.length := by omega
    obtain ⟨b, e1, e2, hb⟩ := Xkn s x h c.Labels[j] (hok _ (List.getElem_mem hjl))
    rw [if_pos (by omega), if_pos (by omega), Qcb hjl, bind_some, bind_some, e1, e2, bind_some, bind_some]
    cases b with
    | false =>
      simp only [Bool.not_false, cond_true]
      rw [Qdt (by omega) (by omega)]
      exact Qsg s c hc hok x h m (j + 1) f f' (by omega) (by omega) (by omega) (by omega)
    | true =>
      simp only [Bool.not_true, cond_false]
      rw [show (Qds s).kind = s.Kind from rfl]
      unfold Qej Qo1
      by_cases hk : s.Kind = 1#8
      · rw [if_pos hk, if_pos hk]; exact ⟨_, rfl, rfl⟩
      · rw [if_neg hk, if_neg hk]
        by_cases hm0 : x.Minus = 0
        · rw [decide_eq_true hm0]; exact ⟨_, rfl, rfl⟩
        · rw [decide_eq_false hm0, cond_false, cond_false]
          rcases hb rfl with h3 | h3 | ⟨q, m', k, hq, hm1, hk1, hk2, hm2, hk3⟩
          · exact absurd h3 hk
          · exact absurd h3 hm0
          · have e3 : Qeu c.Labels[j].Key c.Labels[j].Minus x.Minus = some ((Qf5 m' k).foldl stp c.Labels[j].Key) := by rw [hq, hm1, hk1]; exact Qqv _ (by omega) hk2 (by omega)
            have e4 : Qoi c.Labels[j].Key c.Labels[j].Minus x.Minus = some ((Qf5 m' k).foldl stp c.Labels[j].Key) := by rw [hq, hm1, hk1]; exact Xbi _ (by omega) hk2 (by omega)
            rw [e3, e4, bind_some, bind_some]
            exact ⟨_, rfl, rfl⟩
theorem Xe3 {s : Qa7} {d : Nat} (hv : Qnf s = true) (hd : s.Depth = (d : Int)) (h6 : d ≤ 6) (n m : Nat) : Qd9 s ⟨(n : Int), (m : Int)⟩ = some (Qx1 s.Kind d n m) := by
  have h64 := Qck h6
  have hpow : 2 ^ (d + 1) = 2 * 2 ^ d := by rw [Nat.pow_succ, Nat.mul_comm]
  have hh : ∀ a : Nat, Xd0 d (a : Int) = decide (1 ≤ a ∧ a < 2 ^ (d + 1)) := fun a => by
    unfold Xd0; apply decide_eq_decide.2; rw [hpow]; omega
  unfold Qd9 Qx1
  rw [hd, Qtm h6, bind_some, hh]
  by_cases hn : 1 ≤ n ∧ n < 2 ^ (d + 1)
  · rw [decide_eq_true hn]
    simp only [Bool.not_true, cond_false, Bool.true_and]
    by_cases hk : s.Kind = 1#8
    · rw [if_pos hk, if_pos hk]; congr 1; apply decide_eq_decide.2; omega
    · rw [if_neg hk, if_neg hk]
      by_cases hm : m = 0
      · rw [if_pos (by omega), if_pos hm]; congr 1; apply decide_eq_decide.2; omega
      · rw [if_neg (by omega), if_neg hm, Qtm h6, bind_some, hh]
        by_cases hm2 : m < 2 ^ (d + 1)
        · rw [decide_eq_true (by omega)]
          simp only [Bool.not_true, cond_false]
          by_cases he : m = n
          · rw [if_pos (by omega), decide_eq_false (by omega)]; rfl
          · rw [if_neg (by omega), Qog (by omega) (by omega) (by omega), bind_some, decide_eq_true (by omega), Bool.true_and]
            unfold Qe0 Qux
            cases hb : Qba m n with
            | false => rfl
            | true =>
              simp only [Bool.not_true, cond_false, Bool.true_and]
              by_cases hk2 : s.Kind = 2#8
              · rw [if_pos hk2, decide_eq_true hk2]; rfl
              · rw [if_neg hk2, decide_eq_false hk2, Bool.false_or, hd, Qrj h6 (by omega), bind_some]
                cases Qx4 d n with
                | true => rfl
                | false =>
                  rw [cond_false, Bool.false_or]
                  obtain ⟨k, hk0, hk1, hk3⟩ := Qkk (by omega) hn.1 hb he
                  have hkl := Qub hk3 (by omega)
                  have := Qx8 (d := d) (m := m) (k := k) h6 (by omega) hk3 (by omega)
                  rw [← hk1] at this
                  rw [this, bind_some, show Nat.log2 m - Nat.log2 n - 1 = k from by omega]
                  congr 1; apply decide_eq_decide.2; omega
        · rw [decide_eq_false (p := 1 ≤ m ∧ _) (by omega), decide_eq_false (p := m < _ ∧ _) (by omega)]; rfl
  · rw [decide_eq_false hn]; rfl
theorem Xbp {k : BitVec 8} {d n m : Nat} (h6 : d ≤ 6) (h : Qx1 k d n m = true) : 1 ≤ n ∧ n < 128 ∧ m < 128 ∧ (k = 1#8 ∨ m = 0 ∨ (Qba m n = true ∧ m ≠ n)) := by
  have h64 := Qck h6
  have hpow : 2 ^ (d + 1) = 2 * 2 ^ d := by rw [Nat.pow_succ, Nat.mul_comm]
  unfold Qx1 at h
  simp only [Bool.and_eq_true, decide_eq_true_eq] at h
  obtain ⟨⟨h1, h2⟩, h⟩ := h
  by_cases hk : k = 1#8
  · rw [if_pos hk, decide_eq_true_eq] at h; exact ⟨h1, by omega, by omega, .inl hk⟩
  · rw [if_neg hk] at h
    by_cases hm : m = 0
    · exact ⟨h1, by omega, by omega, .inr (.inl hm)⟩
    · rw [if_neg hm] at h
      simp only [Bool.and_eq_true, decide_eq_true_eq] at h
      exact ⟨h1, by omega, by omega, .inr (.inr ⟨h.1.2, h.1.1.2⟩)⟩
theorem Xfy {s : Qa7} {d : Nat} (hv : Qnf s = true) (hd : s.Depth = (d : Int)) (h6 : d ≤ 6) (x : Qaf) :
    (Qdb s [x] = some (Qa6.mk 0#8 0 0, 31) ∧ Qd9 s x = some false ∧ Qcj (Qds s) x = some false) ∨
    (Qdb s [x] = some (Qds s, 0) ∧ Qd9 s x = some true ∧ Qcj (Qds s) x = some true ∧ Qya s x ∧ ∃ n m : Nat, x = ⟨(n : Int), (m : Int)⟩ ∧ Xq3 s x n m ∧ Qx1 s.Kind d n m = true) := by
  obtain ⟨b, e1, e2, e3, e4⟩ := Xpp s hv x
  cases b with
  | false => exact .inl ⟨e1, e2, e3⟩
  | true =>
    obtain ⟨h1, n, m, h2⟩ := e4 rfl
    have hx : x = ⟨(n : Int), (m : Int)⟩ := by cases x; simp only [Xq3] at h2; rw [h2.1, h2.2.1]
    refine .inr ⟨e1, e2, e3, h1, n, m, hx, h2, ?_⟩
    have := Xe3 hv hd h6 n m
    rw [← hx, e2] at this
    exact (Option.some.inj this).symm
theorem Xbz {s : Qa7} {d n m : Nat} (h6 : d ≤ 6) (hs : Qx1 s.Kind d n m = true) {a : Nat × Nat} (ha : a.1 < 128 ∧ a.2 < 128) (key : W2) :
    Qel (Qds s) (Qb8.mk (a.1 : Int) (a.2 : Int) key) ⟨(n : Int), (m : Int)⟩ = some (ldN s.Kind n m a) ∧ Qmx s (a.1 : Int) (a.2 : Int) ⟨(n : Int), (m : Int)⟩ = some (ldN s.Kind n m a) := by
  obtain ⟨hn1, hn2, hm2, _⟩ := Xbp h6 hs
  unfold Qel Qmx
  rw [show (Qds s).kind = s.Kind from rfl]
  simp only
  by_cases hk : s.Kind = 1#8
  · have hl : ldN s.Kind n m a = decide (a.1 = n ∧ a.2 = m) := if_pos (.inl hk)
    rw [if_pos hk, if_pos hk, hl]
    unfold Qcp Qew
    rw [cond_true, cond_true]
    simp only
    by_cases he : a.1 = n
    · rw [if_neg (by omega), if_pos (by omega)]
      refine ⟨?_, ?_⟩ <;> (congr 1; apply decide_eq_decide.2; omega)
    · rw [if_pos (by omega), if_neg (by omega), decide_eq_false (by omega)]; exact ⟨rfl, rfl⟩
  · rw [if_neg hk, if_neg hk]
    by_cases hm : m = 0
    · have hl : ldN s.Kind n m a = decide (a.1 = n ∧ a.2 = m) := if_pos (.inr hm)
      rw [hl]
      unfold Qcp Qew
      rw [decide_eq_true (by omega), cond_true, cond_true]
      simp only
      by_cases he : a.1 = n
      · rw [if_neg (by omega), if_pos (by omega)]
        refine ⟨?_, ?_⟩ <;> (congr 1; apply decide_eq_decide.2; omega)
      · rw [if_pos (by omega), if_neg (by omega), decide_eq_false (by omega)]; exact ⟨rfl, rfl⟩
    · have hl : ldN s.Kind n m a = (decide (a.1 = n ∧ 1 ≤ a.2) && Qba a.2 n && Qba m a.2) := if_neg (by rintro (h | h); exact hk h; exact hm h)
      rw [hl]
      unfold Qcp Qew
      rw [decide_eq_false (by omega), cond_false, cond_false]
      simp only
      by_cases he : a.1 = n
      · rw [if_neg (by omega), if_pos (by omega)]
        by_cases h1 : 1 ≤ a.2
        · rw [if_pos (by omega), decide_eq_true (by omega), Bool.true_and, he, Qt0 h1 hn1 (by omega) (by omega), Qog h1 hn1 (by omega), bind_some, bind_some]
          cases Qba a.2 n with
          | false => exact ⟨rfl, rfl⟩
          | true => rw [cond_true, cond_true, Qt0 (by omega) h1 (by omega) (by omega), Qog (by omega) h1 (by omega), bind_some, Bool.true_and]; exact ⟨rfl, rfl⟩
        · have h0 : a.2 = 0 := by omega
          rw [if_neg (by omega), decide_eq_false (by omega), Bool.false_and, Bool.false_and]
          refine ⟨?_, rfl⟩
          have : Qbz (a.2 : Int) (a.1 : Int) = some false := by
            unfold Qbz Qd0; rw [if_pos (by omega)]; rfl
          rw [this, bind_some]; rfl
      · rw [if_pos (by omega), if_neg (by omega), decide_eq_false (by omega)]; exact ⟨rfl, rfl⟩
end Go.Sx

end
section
set_option linter.unusedVariables false
set_option linter.unusedSimpArgs false
namespace Go.Sx
open Go
section
variable {s : Qa7} {d u n m : Nat}
def Xtv (s : Qa7) (d u n m : Nat) : Option (Nat × Nat) := (Qsz s.Kind d u).find? (ldN s.Kind n m)
theorem Xoy (h6 : d ≤ 6) (hu : u < 2 ^ d) (hs : Qx1 s.Kind d n m = true) : Qud (2 ^ d + u) n m = (Xtv s d u n m).isSome := by
  rw [← Xj9 h6 hu hs]
  unfold Xtv
  rw [Bool.eq_iff_iff, List.find?_isSome, List.any_eq_true]
end
def Qt6 (d : Nat) (l : List Int) : Bool := (List.range l.length).all fun j => decide (0 ≤ l.getD j 0 ∧ l.getD j 0 < ((2 ^ d : Nat) : Int)) && (decide (j = 0) || decide (l.getD (j - 1) 0 < l.getD j 0))
theorem getD_some {l : List Int} {j : Nat} (h : j < l.length) : l.getD j 0 = l[j] := by simp [List.getD, h]
theorem Qu4 {σ : Type} (p : Nat → Bool) : ∀ (l : List Nat) (F : Nat → (σ → Option Bool) → σ → Option Bool) (s : σ), (∀ a ∈ l, ∀ nx s, F a nx s = bif p a then nx s else some false) → itL F (fun _ => some true) l s = some (l.all p)
  | [], F, s, _ => rfl
  | a :: l, F, s, h => by
    rw [Qkw, h a (by simp), List.all_cons]
    cases p a with
    | false => rfl
    | true => rw [cond_true, Bool.true_and]; exact Qu4 p l F s (fun b hb => h b (by simp [hb]))
theorem Xov {kd : BitVec 8} {d : Nat} {st : Int} (h6 : d ≤ 6) (l : List Int) (hl : l.length < 4611686018427387904) : Qgq ⟨kd, (d : Int), st⟩ l = some (Qt6 d l) := by
  unfold Qgq Qt6
  have := Qvs l.length (Qdm ⟨kd, (d : Int), st⟩ l) (fun j (_ : Unit) => (j : Int)) (fun j nx s => bif decide (0 ≤ l.getD j 0 ∧ l.getD j 0 < ((2 ^ d : Nat) : Int)) && (decide (j = 0) || decide (l.getD (j - 1) 0 < l.getD j 0)) then nx s else some false) (fun _ => some true)
    (fun rec j hj _ => by
      simp only [Qdm, Qef]
      rw [if_pos (by omega), Qcb hj, bind_some, Qwr h6, bind_some, getD_some hj, Qet (by omega)]
      by_cases h : 0 ≤ l[j] ∧ l[j] < ((2 ^ d : Nat) : Int)
      · rw [decide_eq_true h]
        simp only [Bool.not_true, cond_false, Bool.true_and]
        by_cases h0 : j = 0
        · rw [if_neg (by omega), decide_eq_true h0]; rfl
        · have hj1 : j - 1 < l.length := by omega
          rw [if_pos (by omega), Qdt (by omega) (by omega), show (j : Int) - 1 = ((j - 1 : Nat) : Int) from by omega, Qcb hj1, bind_some, decide_eq_false h0, Bool.false_or, getD_some hj1]
          by_cases h1 : l[j] ≤ l[j - 1]
          · rw [decide_eq_true h1, decide_eq_false (by omega)]; rfl
          · rw [decide_eq_false h1, decide_eq_true (by omega)]; rfl
      · rw [decide_eq_false h]; rfl)
    (fun rec _ => by simp only [Qdm]; rw [if_neg (by omega)]) (f := Qcw) (Qe1 (by omega)) ()
  rw [show ((0 : Nat) : Int) = 0 from rfl] at this
  rw [this]
  exact Qu4 _ _ _ _ (fun a _ nx s => rfl)
theorem Xbm {d : Nat} {l : List Int} (h : Qt6 d l = true) {a : Int} (ha : a ∈ l) : ∃ u : Nat, a = (u : Int) ∧ u < 2 ^ d := by
  obtain ⟨j, hj, rfl⟩ := List.mem_iff_getElem.1 ha
  have := List.all_eq_true.1 h j (by simpa using hj)
  rw [Bool.and_eq_true, decide_eq_true_eq, getD_some hj] at this
  exact ⟨l[j].toNat, by omega, by omega⟩
end Go.Sx

end
