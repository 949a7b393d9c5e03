/- Several texts in one: BitL Srt SrtSub Pl Tr Ts Fx Mb Lb Tm Cv Tk Fy SecN Fd Kn Cp Al5 Pka Pkb LawBk5. -/
import Derived.Test.YtjdffpglgkefmaaGreatRows
import Derived.Test.YtjdffpglgkefmaaGreatZc
import Derived.KernelRfl
import Derived.Test.YtjdffpglgkefmaaGreatZb
import Derived.Shelf.SlSortCmp.NoneTotal
import Derived.Test.YtjdffpglgkefmaaGreatZd
import Derived.Shelf.SlGeneric
import Derived.Test.YtjdffpglgkefmaaGreatProg
set_option linter.unusedVariables false
set_option linter.unusedSimpArgs false
section
set_option linter.unusedVariables false
set_option linter.unusedSimpArgs false
namespace Go.Proofs.YtjdffpglgkefmaaGreat
open Go Go.RowKit Go.Sx
theorem Qmn : CV Tryz.prog 5 3 .i64 := fun _ _ _ => by kernel_rfl
theorem Xka : En Tryz.prog 250 := fun _ _ => by kernel_rfl
theorem Xas (n k : Nat) (h : 2 ^ k ≤ n) : Nat.log2 n = Nat.log2 (n / 2 ^ k) + k := by
  induction k generalizing n with
  | zero => simp
  | succ k ih =>
    have h2 : 2 ^ k ≤ n / 2 := by rw [Nat.le_div_iff_mul_le (by omega)]; rw [Nat.pow_succ] at h; omega
    have h1 : 2 ≤ n := by have : 0 < 2 ^ k := Nat.two_pow_pos k; rw [Nat.pow_succ] at h; omega
    rw [Nat.log2_def, if_pos h1, ih (n / 2) h2, Nat.div_div_eq_div_mul, Nat.pow_succ, Nat.mul_comm 2]; omega
theorem Qic (a : Int) (k m : Nat) (hm : 2 ^ k = m) (h : (m : Int) ≤ a) : lg a = lg (a / (m : Int)) + k := by
  obtain ⟨n, rfl⟩ := Int.eq_ofNat_of_zero_le (show 0 ≤ a by omega)
  subst hm
  have hp : 0 < 2 ^ k := Nat.two_pow_pos k
  have h' : 2 ^ k ≤ n := by omega
  have e : ((n : Int) / ((2 ^ k : Nat) : Int)).toNat = n / 2 ^ k := by rw [← Int.natCast_ediv]; rfl
  have h1 : ¬ (n / 2 ^ k = 0) := by rw [Nat.div_eq_zero_iff]; omega
  unfold lg
  rw [e, Int.toNat_natCast, if_neg h1, if_neg (by omega), Xas n k h']
  omega
def Qq1 : ByteArray := ⟨#[0, 1, 2, 2, 3, 3, 3, 3, 4, 4, 4, 4, 4, 4, 4, 4, 5, 5, 5, 5, 5, 5, 5, 5, 5, 5, 5, 5, 5, 5, 5, 5, 6, 6, 6, 6, 6, 6, 6, 6, 6, 6, 6, 6, 6, 6, 6, 6, 6, 6, 6, 6, 6, 6, 6, 6, 6, 6, 6, 6, 6, 6, 6, 6, 7, 7, 7, 7, 7, 7, 7, 7, 7, 7, 7, 7, 7, 7, 7, 7, 7, 7, 7, 7, 7, 7, 7, 7, 7, 7, 7, 7, 7, 7, 7, 7, 7, 7, 7, 7, 7, 7, 7, 7, 7, 7, 7, 7, 7, 7, 7, 7, 7, 7, 7, 7, 7, 7, 7, 7, 7, 7, 7, 7, 7, 7, 7, 7, 8, 8, 8, 8, 8, 8, 8, 8, 8, 8, 8, 8, 8, 8, 8, 8, 8, 8, 8, 8, 8, 8, 8, 8, 8, 8, 8, 8, 8, 8, 8, 8, 8, 8, 8, 8, 8, 8, 8, 8, 8, 8, 8, 8, 8, 8, 8, 8, 8, 8, 8, 8, 8, 8, 8, 8, 8, 8, 8, 8, 8, 8, 8, 8, 8, 8, 8, 8, 8, 8, 8, 8, 8, 8, 8, 8, 8, 8, 8, 8, 8, 8, 8, 8, 8, 8, 8, 8, 8, 8, 8, 8, 8, 8, 8, 8, 8, 8, 8, 8, 8, 8, 8, 8, 8, 8, 8, 8, 8, 8, 8, 8, 8, 8, 8, 8, 8, 8, 8, 8, 8, 8, 8, 8, 8, 8, 8, 8]⟩
theorem Xa3 : ∀ k : Fin 256, Qq1[k.1]? = some (UInt8.ofNat (lg (k.1 : Int)).toNat) ∧ lg (k.1 : Int) = ((UInt8.ofNat (lg (k.1 : Int)).toNat).toNat : Int) := by decide +kernel
theorem Qdl {a : Int} (h0 : 0 ≤ a) (h1 : a < 256) : Qq1[a.toNat]? = some (UInt8.ofNat (lg a).toNat) ∧ lg a = ((UInt8.ofNat (lg a).toNat).toNat : Int) := by
  obtain ⟨n, rfl⟩ := Int.eq_ofNat_of_zero_le h0
  exact Xa3 ⟨n, by omega⟩
theorem Qx7 (a : Int) : -9223372036854775808 ≤ lg a := by unfold lg; split <;> omega
theorem Qwb {a : Int} (h0 : 0 ≤ a) (h1 : a < 256) : lg a ≤ 9223372036854775807 := by have := (Qdl h0 h1).2; have := (UInt8.ofNat (lg a).toNat).toNat_lt; omega
theorem Qsl {b : Int} (a : Int) (h : 0 ≤ b) : -9223372036854775808 ≤ b + lg a := by unfold lg; split <;> omega
theorem Qov {a b : Int} (h0 : 0 ≤ a) (h1 : a < 256) (hb : b ≤ 1000) : b + lg a ≤ 9223372036854775807 := by have := (Qdl h0 h1).2; have := (UInt8.ofNat (lg a).toNat).toNat_lt; omega
set_option maxRecDepth 20000 in
set_option maxHeartbeats 1000000 in
theorem Xhi (a : Int) (ha1 : 0 ≤ a) (ha2 : a < 18446744073709551616) (w : World) :
    Calls Tryz.prog 250 [.int .u64 a].toArray w fun e w' => ∃ v, e = .returned v ∧ (v = .int .i64 (lg a) ∧ Gr w w') := by
  refine Qa5 (R := fun v w' => v = .int .i64 (lg a) ∧ Gr w w') 25 Tryz.func250 rfl rfl rfl ?_
  refine Qa3 ?_
  refine Qar [(0, 0)] rfl rfl rfl ?_
  refine Qav rfl rfl rfl (Qbh rfl) ?_
  refine Qa1 ?_
  refine Qa3 ?_
  refine Qa3 ?_
  refine Qar [(0, 0), (1, 0)] rfl rfl rfl ?_
  refine Qav rfl rfl rfl (Qad rfl) ?_
  refine Qav rfl rfl rfl (Qdy rfl rfl) ?_
  refine Qa1 ?_
  refine Qal rfl (fun h1 => ?_) (fun h1 => ?_)
  · -- h1 True
    replace h1 := of_decide_eq_true h1
    refine Qa3 ?_
    refine Qar [(0, 0), (1, 0), (2, 0)] rfl rfl rfl ?_
    refine Qav rfl rfl rfl (Qad rfl) ?_
    refine Qav rfl rfl rfl (Qql (n := 32) (m := 4294967296) rfl rfl rfl (by decide)) ?_
    refine Qav rfl rfl rfl (Qbh rfl) ?_
    refine Qa1 ?_
    refine Qar [(0, 0)] rfl rfl rfl ?_
    refine Qav rfl rfl rfl (Qbh rfl) ?_
    refine Qa1 ?_
    refine Qa3 ?_
    refine Qa3 ?_
    refine Qar [(0, 0), (1, 0)] rfl rfl rfl ?_
    refine Qav rfl rfl rfl (Qad rfl) ?_
    refine Qav rfl rfl rfl (Qdy rfl rfl) ?_
    refine Qa1 ?_
    refine Qal rfl (fun h2 => ?_) (fun h2 => ?_)
    · -- h2 True
      replace h2 := of_decide_eq_true h2
      refine Qa3 ?_
      refine Qar [(0, 0), (1, 0), (2, 0)] rfl rfl rfl ?_
      refine Qav rfl rfl rfl (Qad rfl) ?_
      refine Qav rfl rfl rfl (Qql (n := 16) (m := 65536) rfl rfl rfl (by decide)) ?_
      refine Qav rfl rfl rfl (Qbh rfl) ?_
      refine Qa1 ?_
      refine Qar [(0, 0), (1, 0), (2, 0)] rfl rfl rfl ?_
      refine Qav rfl rfl rfl (Qad rfl) ?_
      refine Qav rfl rfl rfl (Qej rfl rfl (by omega) (by omega)) ?_
      refine Qav rfl rfl rfl (Qbh rfl) ?_
      refine Qa1 ?_
      refine Qa3 ?_
      refine Qa3 ?_
      refine Qar [(0, 0), (1, 0)] rfl rfl rfl ?_
      refine Qav rfl rfl rfl (Qad rfl) ?_
      refine Qav rfl rfl rfl (Qdy rfl rfl) ?_
      refine Qa1 ?_
      refine Qal rfl (fun h3 => ?_) (fun h3 => ?_)
      · -- h3 True
        replace h3 := of_decide_eq_true h3
        refine Qa3 ?_
        refine Qar [(0, 0), (1, 0), (2, 0)] rfl rfl rfl ?_
        refine Qav rfl rfl rfl (Qad rfl) ?_
        refine Qav rfl rfl rfl (Qql (n := 8) (m := 256) rfl rfl rfl (by decide)) ?_
        refine Qav rfl rfl rfl (Qbh rfl) ?_
        refine Qa1 ?_
        refine Qar [(0, 0), (1, 0), (2, 0)] rfl rfl rfl ?_
        refine Qav rfl rfl rfl (Qad rfl) ?_
        refine Qav rfl rfl rfl (Qej rfl rfl (by omega) (by omega)) ?_
        refine Qav rfl rfl rfl (Qbh rfl) ?_
        refine Qa1 ?_
        refine Qa3 ?_
        refine Qar [(0, 0), (1, 0), (2, 0), (3, 0), (4, 0), (5, 0), (6, 0)] rfl rfl rfl ?_
        refine Qav rfl rfl rfl (Qad rfl) ?_
        refine Qav rfl rfl rfl (Qad rfl) ?_
        refine Qav rfl rfl rfl (Qm7 Qji rfl (by omega) (by omega)) ?_
        refine Qav rfl rfl rfl (Qg1 (Qmh Tryz.underlying9 rfl rfl (by omega) (show Qq1[_]? = _ from (Qdl (by omega) (by omega)).1)) (congrArg (Value.int .u8) (Qdl (by omega) (by omega)).2.symm)) ?_
        refine Qav rfl rfl rfl (Qje Qmn rfl (Qx7 _) (Qwb (by omega) (by omega))) ?_
        refine Qav rfl rfl rfl (Qej rfl rfl (Qsl _ (by decide)) (Qov (by omega) (by omega) (by decide))) ?_
        refine Qav rfl rfl rfl (Qbh rfl) ?_
        refine Qa1 ?_
        refine Qaf ?_
        refine ⟨_, _, rfl, Qli rfl rfl, ?_⟩
        refine ⟨congrArg (Value.int .i64) ?_, (Gr.refl w)⟩
        have e0 : lg (a : Int) = lg ((a : Int) / 4294967296) + 32 := Qic (a : Int) 32 4294967296 (by decide) (by omega)
        have e1 : lg ((a : Int) / 4294967296) = lg (((a : Int) / 4294967296) / 65536) + 16 := Qic ((a : Int) / 4294967296) 16 65536 (by decide) (by omega)
        have e2 : lg (((a : Int) / 4294967296) / 65536) = lg ((((a : Int) / 4294967296) / 65536) / 256) + 8 := Qic (((a : Int) / 4294967296) / 65536) 8 256 (by decide) (by omega)
        omega
      · -- h3 False
        replace h3 := of_decide_eq_false h3
        refine Qc5 ?_
        refine Qaz ?_
        refine Qa3 ?_
        refine Qar [(0, 0), (1, 0), (2, 0), (3, 0), (4, 0), (5, 0), (6, 0)] rfl rfl rfl ?_
        refine Qav rfl rfl rfl (Qad rfl) ?_
        refine Qav rfl rfl rfl (Qad rfl) ?_
        refine Qav rfl rfl rfl (Qm7 Qji rfl (by omega) (by omega)) ?_
        refine Qav rfl rfl rfl (Qg1 (Qmh Tryz.underlying9 rfl rfl (by omega) (show Qq1[_]? = _ from (Qdl (by omega) (by omega)).1)) (congrArg (Value.int .u8) (Qdl (by omega) (by omega)).2.symm)) ?_
        refine Qav rfl rfl rfl (Qje Qmn rfl (Qx7 _) (Qwb (by omega) (by omega))) ?_
        refine Qav rfl rfl rfl (Qej rfl rfl (Qsl _ (by decide)) (Qov (by omega) (by omega) (by decide))) ?_
        refine Qav rfl rfl rfl (Qbh rfl) ?_
        refine Qa1 ?_
        refine Qaf ?_
        refine ⟨_, _, rfl, Qli rfl rfl, ?_⟩
        refine ⟨congrArg (Value.int .i64) ?_, (Gr.refl w)⟩
        have e0 : lg (a : Int) = lg ((a : Int) / 4294967296) + 32 := Qic (a : Int) 32 4294967296 (by decide) (by omega)
        have e1 : lg ((a : Int) / 4294967296) = lg (((a : Int) / 4294967296) / 65536) + 16 := Qic ((a : Int) / 4294967296) 16 65536 (by decide) (by omega)
        omega
    · -- h2 False
      replace h2 := of_decide_eq_false h2
      refine Qc5 ?_
      refine Qaz ?_
      refine Qa3 ?_
      refine Qa3 ?_
      refine Qar [(0, 0), (1, 0)] rfl rfl rfl ?_
      refine Qav rfl rfl rfl (Qad rfl) ?_
      refine Qav rfl rfl rfl (Qdy rfl rfl) ?_
      refine Qa1 ?_
      refine Qal rfl (fun h4 => ?_) (fun h4 => ?_)
      · -- h4 True
        replace h4 := of_decide_eq_true h4
        refine Qa3 ?_
        refine Qar [(0, 0), (1, 0), (2, 0)] rfl rfl rfl ?_
        refine Qav rfl rfl rfl (Qad rfl) ?_
        refine Qav rfl rfl rfl (Qql (n := 8) (m := 256) rfl rfl rfl (by decide)) ?_
        refine Qav rfl rfl rfl (Qbh rfl) ?_
        refine Qa1 ?_
        refine Qar [(0, 0), (1, 0), (2, 0)] rfl rfl rfl ?_
        refine Qav rfl rfl rfl (Qad rfl) ?_
        refine Qav rfl rfl rfl (Qej rfl rfl (by omega) (by omega)) ?_
        refine Qav rfl rfl rfl (Qbh rfl) ?_
        refine Qa1 ?_
        refine Qa3 ?_
        refine Qar [(0, 0), (1, 0), (2, 0), (3, 0), (4, 0), (5, 0), (6, 0)] rfl rfl rfl ?_
        refine Qav rfl rfl rfl (Qad rfl) ?_
        refine Qav rfl rfl rfl (Qad rfl) ?_
        refine Qav rfl rfl rfl (Qm7 Qji rfl (by omega) (by omega)) ?_
        refine Qav rfl rfl rfl (Qg1 (Qmh Tryz.underlying9 rfl rfl (by omega) (show Qq1[_]? = _ from (Qdl (by omega) (by omega)).1)) (congrArg (Value.int .u8) (Qdl (by omega) (by omega)).2.symm)) ?_
        refine Qav rfl rfl rfl (Qje Qmn rfl (Qx7 _) (Qwb (by omega) (by omega))) ?_
        refine Qav rfl rfl rfl (Qej rfl rfl (Qsl _ (by decide)) (Qov (by omega) (by omega) (by decide))) ?_
        refine Qav rfl rfl rfl (Qbh rfl) ?_
        refine Qa1 ?_
        refine Qaf ?_
        refine ⟨_, _, rfl, Qli rfl rfl, ?_⟩
        refine ⟨congrArg (Value.int .i64) ?_, (Gr.refl w)⟩
        have e0 : lg (a : Int) = lg ((a : Int) / 4294967296) + 32 := Qic (a : Int) 32 4294967296 (by decide) (by omega)
        have e1 : lg ((a : Int) / 4294967296) = lg (((a : Int) / 4294967296) / 256) + 8 := Qic ((a : Int) / 4294967296) 8 256 (by decide) (by omega)
        omega
      · -- h4 False
        replace h4 := of_decide_eq_false h4
        refine Qc5 ?_
        refine Qaz ?_
        refine Qa3 ?_
        refine Qar [(0, 0), (1, 0), (2, 0), (3, 0), (4, 0), (5, 0), (6, 0)] rfl rfl rfl ?_
        refine Qav rfl rfl rfl (Qad rfl) ?_
        refine Qav rfl rfl rfl (Qad rfl) ?_
        refine Qav rfl rfl rfl (Qm7 Qji rfl (by omega) (by omega)) ?_
        refine Qav rfl rfl rfl (Qg1 (Qmh Tryz.underlying9 rfl rfl (by omega) (show Qq1[_]? = _ from (Qdl (by omega) (by omega)).1)) (congrArg (Value.int .u8) (Qdl (by omega) (by omega)).2.symm)) ?_
        refine Qav rfl rfl rfl (Qje Qmn rfl (Qx7 _) (Qwb (by omega) (by omega))) ?_
        refine Qav rfl rfl rfl (Qej rfl rfl (Qsl _ (by decide)) (Qov (by omega) (by omega) (by decide))) ?_
        refine Qav rfl rfl rfl (Qbh rfl) ?_
        refine Qa1 ?_
        refine Qaf ?_
        refine ⟨_, _, rfl, Qli rfl rfl, ?_⟩
        refine ⟨congrArg (Value.int .i64) ?_, (Gr.refl w)⟩
        have e0 : lg (a : Int) = lg ((a : Int) / 4294967296) + 32 := Qic (a : Int) 32 4294967296 (by decide) (by omega)
        omega
  · -- h1 False
    replace h1 := of_decide_eq_false h1
    refine Qc5 ?_
    refine Qaz ?_
    refine Qa3 ?_
    refine Qa3 ?_
    refine Qar [(0, 0), (1, 0)] rfl rfl rfl ?_
    refine Qav rfl rfl rfl (Qad rfl) ?_
    refine Qav rfl rfl rfl (Qdy rfl rfl) ?_
    refine Qa1 ?_
    refine Qal rfl (fun h5 => ?_) (fun h5 => ?_)
    · -- h5 True
      replace h5 := of_decide_eq_true h5
      refine Qa3 ?_
      refine Qar [(0, 0), (1, 0), (2, 0)] rfl rfl rfl ?_
      refine Qav rfl rfl rfl (Qad rfl) ?_
      refine Qav rfl rfl rfl (Qql (n := 16) (m := 65536) rfl rfl rfl (by decide)) ?_
      refine Qav rfl rfl rfl (Qbh rfl) ?_
      refine Qa1 ?_
      refine Qar [(0, 0), (1, 0), (2, 0)] rfl rfl rfl ?_
      refine Qav rfl rfl rfl (Qad rfl) ?_
      refine Qav rfl rfl rfl (Qej rfl rfl (by omega) (by omega)) ?_
      refine Qav rfl rfl rfl (Qbh rfl) ?_
      refine Qa1 ?_
      refine Qa3 ?_
      refine Qa3 ?_
      refine Qar [(0, 0), (1, 0)] rfl rfl rfl ?_
      refine Qav rfl rfl rfl (Qad rfl) ?_
      refine Qav rfl rfl rfl (Qdy rfl rfl) ?_
      refine Qa1 ?_
      refine Qal rfl (fun h6 => ?_) (fun h6 => ?_)
      · -- h6 True
        replace h6 := of_decide_eq_true h6
        refine Qa3 ?_
        refine Qar [(0, 0), (1, 0), (2, 0)] rfl rfl rfl ?_
        refine Qav rfl rfl rfl (Qad rfl) ?_
        refine Qav rfl rfl rfl (Qql (n := 8) (m := 256) rfl rfl rfl (by decide)) ?_
        refine Qav rfl rfl rfl (Qbh rfl) ?_
        refine Qa1 ?_
        refine Qar [(0, 0), (1, 0), (2, 0)] rfl rfl rfl ?_
        refine Qav rfl rfl rfl (Qad rfl) ?_
        refine Qav rfl rfl rfl (Qej rfl rfl (by omega) (by omega)) ?_
        refine Qav rfl rfl rfl (Qbh rfl) ?_
        refine Qa1 ?_
        refine Qa3 ?_
        refine Qar [(0, 0), (1, 0), (2, 0), (3, 0), (4, 0), (5, 0), (6, 0)] rfl rfl rfl ?_
        refine Qav rfl rfl rfl (Qad rfl) ?_
        refine Qav rfl rfl rfl (Qad rfl) ?_
        refine Qav rfl rfl rfl (Qm7 Qji rfl (by omega) (by omega)) ?_
        refine Qav rfl rfl rfl (Qg1 (Qmh Tryz.underlying9 rfl rfl (by omega) (show Qq1[_]? = _ from (Qdl (by omega) (by omega)).1)) (congrArg (Value.int .u8) (Qdl (by omega) (by omega)).2.symm)) ?_
        refine Qav rfl rfl rfl (Qje Qmn rfl (Qx7 _) (Qwb (by omega) (by omega))) ?_
        refine Qav rfl rfl rfl (Qej rfl rfl (Qsl _ (by decide)) (Qov (by omega) (by omega) (by decide))) ?_
        refine Qav rfl rfl rfl (Qbh rfl) ?_
        refine Qa1 ?_
        refine Qaf ?_
        refine ⟨_, _, rfl, Qli rfl rfl, ?_⟩
        refine ⟨congrArg (Value.int .i64) ?_, (Gr.refl w)⟩
        have e0 : lg (a : Int) = lg ((a : Int) / 65536) + 16 := Qic (a : Int) 16 65536 (by decide) (by omega)
        have e1 : lg ((a : Int) / 65536) = lg (((a : Int) / 65536) / 256) + 8 := Qic ((a : Int) / 65536) 8 256 (by decide) (by omega)
        omega
      · -- h6 False
        replace h6 := of_decide_eq_false h6
        refine Qc5 ?_
        refine Qaz ?_
        refine Qa3 ?_
        refine Qar [(0, 0), (1, 0), (2, 0), (3, 0), (4, 0), (5, 0), (6, 0)] rfl rfl rfl ?_
        refine Qav rfl rfl rfl (Qad rfl) ?_
        refine Qav rfl rfl rfl (Qad rfl) ?_
        refine Qav rfl rfl rfl (Qm7 Qji rfl (by omega) (by omega)) ?_
        refine Qav rfl rfl rfl (Qg1 (Qmh Tryz.underlying9 rfl rfl (by omega) (show Qq1[_]? = _ from (Qdl (by omega) (by omega)).1)) (congrArg (Value.int .u8) (Qdl (by omega) (by omega)).2.symm)) ?_
        refine Qav rfl rfl rfl (Qje Qmn rfl (Qx7 _) (Qwb (by omega) (by omega))) ?_
        refine Qav rfl rfl rfl (Qej rfl rfl (Qsl _ (by decide)) (Qov (by omega) (by omega) (by decide))) ?_
        refine Qav rfl rfl rfl (Qbh rfl) ?_
        refine Qa1 ?_
        refine Qaf ?_
        refine ⟨_, _, rfl, Qli rfl rfl, ?_⟩
        refine ⟨congrArg (Value.int .i64) ?_, (Gr.refl w)⟩
        have e0 : lg (a : Int) = lg ((a : Int) / 65536) + 16 := Qic (a : Int) 16 65536 (by decide) (by omega)
        omega
    · -- h5 False
      replace h5 := of_decide_eq_false h5
      refine Qc5 ?_
      refine Qaz ?_
      refine Qa3 ?_
      refine Qa3 ?_
      refine Qar [(0, 0), (1, 0)] rfl rfl rfl ?_
      refine Qav rfl rfl rfl (Qad rfl) ?_
      refine Qav rfl rfl rfl (Qdy rfl rfl) ?_
      refine Qa1 ?_
      refine Qal rfl (fun h7 => ?_) (fun h7 => ?_)
      · -- h7 True
        replace h7 := of_decide_eq_true h7
        refine Qa3 ?_
        refine Qar [(0, 0), (1, 0), (2, 0)] rfl rfl rfl ?_
        refine Qav rfl rfl rfl (Qad rfl) ?_
        refine Qav rfl rfl rfl (Qql (n := 8) (m := 256) rfl rfl rfl (by decide)) ?_
        refine Qav rfl rfl rfl (Qbh rfl) ?_
        refine Qa1 ?_
        refine Qar [(0, 0), (1, 0), (2, 0)] rfl rfl rfl ?_
        refine Qav rfl rfl rfl (Qad rfl) ?_
        refine Qav rfl rfl rfl (Qej rfl rfl (by omega) (by omega)) ?_
        refine Qav rfl rfl rfl (Qbh rfl) ?_
        refine Qa1 ?_
        refine Qa3 ?_
        refine Qar [(0, 0), (1, 0), (2, 0), (3, 0), (4, 0), (5, 0), (6, 0)] rfl rfl rfl ?_
        refine Qav rfl rfl rfl (Qad rfl) ?_
        refine Qav rfl rfl rfl (Qad rfl) ?_
        refine Qav rfl rfl rfl (Qm7 Qji rfl (by omega) (by omega)) ?_
        refine Qav rfl rfl rfl (Qg1 (Qmh Tryz.underlying9 rfl rfl (by omega) (show Qq1[_]? = _ from (Qdl (by omega) (by omega)).1)) (congrArg (Value.int .u8) (Qdl (by omega) (by omega)).2.symm)) ?_
        refine Qav rfl rfl rfl (Qje Qmn rfl (Qx7 _) (Qwb (by omega) (by omega))) ?_
        refine Qav rfl rfl rfl (Qej rfl rfl (Qsl _ (by decide)) (Qov (by omega) (by omega) (by decide))) ?_
        refine Qav rfl rfl rfl (Qbh rfl) ?_
        refine Qa1 ?_
        refine Qaf ?_
        refine ⟨_, _, rfl, Qli rfl rfl, ?_⟩
        refine ⟨congrArg (Value.int .i64) ?_, (Gr.refl w)⟩
        have e0 : lg (a : Int) = lg ((a : Int) / 256) + 8 := Qic (a : Int) 8 256 (by decide) (by omega)
        omega
      · -- h7 False
        replace h7 := of_decide_eq_false h7
        refine Qc5 ?_
        refine Qaz ?_
        refine Qa3 ?_
        refine Qar [(0, 0), (1, 0), (2, 0), (3, 0), (4, 0), (5, 0), (6, 0)] rfl rfl rfl ?_
        refine Qav rfl rfl rfl (Qad rfl) ?_
        refine Qav rfl rfl rfl (Qad rfl) ?_
        refine Qav rfl rfl rfl (Qm7 Qji rfl (by omega) (by omega)) ?_
        refine Qav rfl rfl rfl (Qg1 (Qmh Tryz.underlying9 rfl rfl (by omega) (show Qq1[_]? = _ from (Qdl (by omega) (by omega)).1)) (congrArg (Value.int .u8) (Qdl (by omega) (by omega)).2.symm)) ?_
        refine Qav rfl rfl rfl (Qje Qmn rfl (Qx7 _) (Qwb (by omega) (by omega))) ?_
        refine Qav rfl rfl rfl (Qej rfl rfl (Qsl _ (by decide)) (Qov (by omega) (by omega) (by decide))) ?_
        refine Qav rfl rfl rfl (Qbh rfl) ?_
        refine Qa1 ?_
        refine Qaf ?_
        refine ⟨_, _, rfl, Qli rfl rfl, ?_⟩
        refine ⟨congrArg (Value.int .i64) ?_, (Gr.refl w)⟩
        omega
set_option maxHeartbeats 1000000 in
theorem Xnh (a : Int) (ha1 : 0 ≤ a) (ha2 : a < 18446744073709551616) (w : World) :
    Calls Tryz.prog 194 [.int .u64 a].toArray w fun e w' => ∃ v, e = .returned v ∧ (v = .int .i64 (lg a) ∧ Gr w w') := by
  refine Qa5 (R := fun v w' => v = .int .i64 (lg a) ∧ Gr w w') 8 Tryz.func194 rfl rfl rfl ?_
  refine Qa3 ?_
  refine Qar [(0, 0)] rfl rfl rfl ?_
  refine Qav rfl rfl rfl (Qbh rfl) ?_
  refine Qa1 ?_
  refine Qa3 ?_
  refine Qj9 rfl ?_
  refine Qc5 ?_
  refine Qaz ?_
  refine Qa3 ?_
  refine Qar [(0, 0), (1, 0), (2, 0)] rfl rfl rfl ?_
  refine Qav rfl rfl rfl (Qad rfl) ?_
  refine Qdx rfl rfl rfl (Qgh Xka rfl (Xhi _ (by omega) (by omega) _)) ?_
  rintro _ w1 ⟨rfl, Gw1⟩
  have z1 := Gw1.size
  refine Qav rfl rfl rfl (Qbh rfl) ?_
  refine Qa1 ?_
  refine Qaf ?_
  have X2 : Gr w w1 := (Gr.trans (Gr.refl w) Gw1)
  refine ⟨_, _, rfl, Qli rfl rfl, ?_⟩
  exact ⟨rfl, X2⟩
end Go.Proofs.YtjdffpglgkefmaaGreat

end
section
set_option linter.unusedVariables false
set_option linter.unusedSimpArgs false
namespace Go.Sx
open Go Go.RowKit Go.Proofs Go.Sort Go.Shelf
def Ws' (k : Nat) (xs : List (List Value)) : Prop := ∀ y ∈ xs, y.length = k
theorem Xnf {β : Type} [Inhabited β] (enc : β → List Value) (k : Nat) (hk : 1 ≤ k) (hc : ∀ b, (enc b).length = k) (w : World) (g n : Nat) (d : Array β) (os : Array Obj) (e : TypeId) (cur : Array Value) (hb : w.heap[g]? = some (.cells cur e (0, 0))) (hl : d.size * k ≤ cur.size) :
    ∃ cur' : Array Value, (sortWorldK enc k w g 0 n d os).heap[g]? = some (.cells cur' e (0, 0)) ∧ cur'.size = cur.size ∧ cur'.toList.take (d.size * k) = (d.toList.map enc).flatten ∧ Kz [(1, g)] w (sortWorldK enc k w g 0 n d os) := by
  have hlt : g < w.heap.size := (Array.getElem?_eq_some_iff.1 hb).1
  have hh : (sortWorldK enc k w g 0 n d os).heap = (w.heap.modify g (onCells (putCells id 0 (flatK enc k d)))) ++ os := rfl
  refine ⟨putCells id 0 (flatK enc k d) cur, ?_, by simp [putCells], ?_, ?_⟩
  · rw [hh, Array.getElem?_append_left (by simpa using hlt), Array.getElem?_modify, if_pos rfl, hb]; rfl
  · apply List.ext_getElem?
    intro t
    rw [List.getElem?_take]
    have hfl : ((d.toList.map enc).flatten).length = d.size * k := by
      have : Ws' k (d.toList.map enc) := by
        intro y hy; obtain ⟨b, _, rfl⟩ := List.mem_map.1 hy; exact hc b
      have h2 : ∀ (xs : List (List Value)), Ws' k xs → xs.flatten.length = xs.length * k := by
        intro xs
        induction xs with
        | nil => intro _; simp
        | cons a xs ih => intro h; rw [List.flatten_cons, List.length_append, ih (fun y hy => h y (List.mem_cons_of_mem _ hy)), h a (by simp), List.length_cons, Nat.add_mul]; omega
      rw [h2 _ this]; simp
    by_cases ht : t < d.size * k
    · rw [if_pos ht]
      have htc : t < cur.size := by omega
      have h3 : (putCells id 0 (flatK enc k d) cur).toList[t]? = some ((flatK enc k d)[t]!) := by
        simp only [putCells, Array.getElem?_toList, Array.getElem?_mapIdx, Array.getElem?_eq_getElem htc, Option.map_some, Nat.zero_le, true_and, Nat.zero_add, size_flatK, ht, if_true, Nat.sub_zero, id]
      rw [h3, get_flatK enc k d t ht]
      have hq : t / k < d.size := (Nat.div_lt_iff_lt_mul (by omega)).2 ht
      have hm : t % k < k := Nat.mod_lt _ (by omega)
      have hgen : ∀ (xs : List (List Value)), Ws' k xs → ∀ i j c, xs[i]? = some c → j < k → xs.flatten[i * k + j]? = c[j]? := by
        intro xs
        induction xs with
        | nil => intro _ i j c h; simp at h
        | cons a xs ih =>
          intro hw i j c h hj
          have ha := hw a (by simp)
          rw [List.flatten_cons]
          cases i with
          | zero => simp at h; subst h; rw [Nat.zero_mul, Nat.zero_add, List.getElem?_append_left (by omega)]
          | succ i =>
            rw [List.getElem?_append_right (by rw [ha, Nat.add_mul]; omega), show (i + 1) * k + j - a.length = i * k + j from by rw [ha, Nat.add_mul]; omega]
            exact ih (fun y hy => hw y (List.mem_cons_of_mem _ hy)) i j c (by simpa using h) hj
      have h4 := hgen (d.toList.map enc) (fun y hy => by obtain ⟨b, _, rfl⟩ := List.mem_map.1 hy; exact hc b) (t / k) (t % k) (enc d[t / k]!) (by simp [hq]) hm
      have hdm : t / k * k + t % k = t := by rw [Nat.mul_comm]; exact Nat.div_add_mod t k
      rw [hdm] at h4
      rw [h4]
      have h5 : t % k < (enc d[t / k]!).length := by rw [hc]; exact hm
      simp [h5]
    · rw [if_neg ht, List.getElem?_eq_none (by omega)]
  · refine ⟨rfl, rfl, rfl, by rw [hh]; simp, fun i hi hn => ?_⟩
    have hne : g ≠ i := by
      simp only [Nin] at hn
      rcases hn.1 with h | h
      · omega
      · exact fun e => h e.symm
    rw [hh, Array.getElem?_append_left (by simpa using hi), Array.getElem?_modify, if_neg hne]
section
variable {P : Program} {ρ : Ren}
theorem Xea {β : Type} (c : β → List Value) (k : Nat) (hc : ∀ b, (c b).length = k) (h1 : ∀ b, Qjr (c b) = true) (hk : 1 ≤ k) (key : β → Int) (cf : Nat) (L : SlLaysF0.n6 P ρ) (aE : ∀ w, (isAgg (ρ.t 24)).run P w = .ok true w) (zE : ∀ w, (Go.sizeOf (ρ.t 24)).run P w = .ok k w)
    (eg : ∀ args w, (callFunc cf args).run P w = .ok (.enter cf args) w)
    (hcmp : ∀ (x y : β) (W : World), 0 ≤ key x ∧ key x < 4611686018427387904 → 0 ≤ key y ∧ key y < 4611686018427387904 → Calls P cf #[.agg (c x).toArray, .agg (c y).toArray] W fun e w' => e = .returned (.int .i64 (key x - key y)) ∧ ∃ q os', w' = grow (W.drewN q) os')
    {l m : List β} (hm : Qya key l = some m) (w : World) (z g : Nat) (e : TypeId) (v : Value) (h : Own w z g e k v (l.map c)) :
    Calls P (ρ.f 6) #[v, .func (.func cf) #[] #[]] w fun e' w' => ∃ v', e' = .returned v' ∧ (Own w' z g e k v (m.map c) ∧ Kz [(z, g)] w w') := by
  obtain ⟨rfl, hbd, hnd, hlen⟩ := Xev hm
  rcases h.2 with ⟨hz, rfl, h0⟩ | ⟨hz, cap, cur, rfl, hb, hn, hcap, hsz, htk⟩
  · have hl0 : l = [] := by simpa using h0
    subst hl0
    refine (AnyF.slices_SortFunc_none L none 0 (.func (.func cf) #[] #[]) w).mono ?_
    rintro e' w' ⟨rfl, rfl⟩
    exact ⟨_, rfl, by simpa using h, Kz.refl _ _⟩
  · by_cases hl0 : l = []
    · subst hl0
      have : (([] : List β).map c).length = 0 := rfl
      rw [this]
      refine (AnyF.slices_SortFunc_none L (some ⟨g, 0, none⟩) cap (.func (.func cf) #[] #[]) w).mono ?_
      rintro e' w' ⟨rfl, rfl⟩
      exact ⟨_, rfl, by simpa using h, Kz.refl _ _⟩
    · obtain ⟨b0, hb0⟩ := List.exists_mem_of_ne_nil l hl0
      let A := { x : β // x ∈ l }
      letI : Inhabited A := ⟨⟨b0, hb0⟩⟩
      let enc : A → List Value := fun x => c x.1
      let d : Array A := l.attach.toArray
      let cfn : A → A → Int := fun x y => key x.1 - key y.1
      have hds : d.size = l.length := by show l.attach.toArray.size = l.length; simp
      have hlt : ∀ x y : A, ltOf cfn x y = decide (key x.1 < key y.1) := fun x y => by
        unfold ltOf; apply decide_eq_decide.2; show key x.1 - key y.1 < 0 ↔ _; omega
      have hO : SWO (ltOf cfn) := ⟨fun x => by rw [hlt]; simp, fun x y z h1 h2 => by rw [hlt] at *; simp at *; omega, fun x y z h1 h2 => by rw [hlt] at *; simp at *; omega⟩
      have hT : ∀ x y : A, ltOf cfn x y = false → ltOf cfn y x = false → x = y := fun x y h1 h2 => by
        rw [hlt] at h1 h2
        simp at h1 h2
        have he : key x.1 = key y.1 := by omega
        apply Subtype.ext
        obtain ⟨i, hi, ei⟩ := List.mem_iff_getElem.1 x.2
        obtain ⟨j, hj, ej⟩ := List.mem_iff_getElem.1 y.2
        have hij : i = j := (List.getElem_inj (h₀ := by simpa using hi) (h₁ := by simpa using hj) hnd).1 (by rw [List.getElem_map, List.getElem_map, ei, ej]; exact he)
        subst hij; rw [← ei, ← ej]
      have hmk : d.toList.map enc = l.map c := by
        show l.attach.toArray.toList.map (fun x : A => c x.1) = l.map c
        show List.map (fun x : { x : β // x ∈ l } => c x.1) l.attach = l.map c
        exact List.attach_map_val
      rw [List.length_map] at hn htk
      have hle : d.size * k ≤ cur.size := by rw [hds, hsz]; exact Nat.mul_le_mul_right _ hn
      have hH : HoldsK enc k w g 0 d := by
        intro j hj
        rw [size_flatK] at hj
        rw [get_flatK enc k d j hj]
        have hq : j / k < d.size := (Nat.div_lt_iff_lt_mul (by omega)).2 hj
        have hm' : j % k < k := Nat.mod_lt _ (by omega)
        have hcell : w.cell? ⟨g, 0 + j, none⟩ = cur[j]? := by rw [Nat.zero_add, cell_of_row w g j _ e _ hb]
        have hws : Ws k (l.map c) := h.1
        have hat := hws.at (j / k) (j % k) (c (l[j / k]'(by omega))) (by simp [show j / k < l.length by omega]) hm'
        have hdm : j / k * k + j % k = j := by rw [Nat.mul_comm]; exact Nat.div_add_mod j k
        rw [hdm, ← htk, List.getElem?_take, if_pos (by rw [hds] at hj; exact hj), Array.getElem?_toList] at hat
        have hdj : enc d[j / k]! = c (l[j / k]'(by omega)) := by
          have : d[j / k]! = ⟨l[j / k]'(by omega), List.getElem_mem _⟩ := by
            have hjl : j / k < d.size := hq
            rw [getElem!_pos d (j / k) hjl]
            show (l.attach.toArray)[j / k]'(by simpa using (show j / k < l.length by omega)) = _
            simp
          rw [this]
        refine ⟨?_, ?_⟩
        · rw [hcell, hat, hdj]
          have h5 : j % k < (c (l[j / k]'(by omega))).length := by rw [hc]; exact hm'
          simp [h5]
        · simp [World.frozen?, hb]
      have hcl : CmpLays P cf #[] enc k cfn g 0 d.size w := fun mm os dk hs x y => by
        have := hcmp x.1 y.1 (sortWorldK enc k w g 0 mm dk os) (hbd _ x.2) (hbd _ y.2)
        simpa [enc, cfn] using this
      have hone : ∀ x : A, ∀ u ∈ enc x, u.oneCell' = true := fun x u hu => by
        have hws : Ws k (l.map c) := h.1
        exact hws.one u (List.mem_flatten.2 ⟨c x.1, List.mem_map.2 ⟨x.1, x.2, rfl⟩, hu⟩)
      have := AnyQ.slices_SortFunc_total L k aE zE enc (fun x => hc x.1) hone cfn hO cf #[] g 0 cap d w eg hcl hH (Array.getElem?_eq_some_iff.1 hb).1 (by omega) hT
      rw [hds] at this
      rw [List.length_map]
      refine this.mono ?_
      rintro e' w' ⟨rfl, n, os, rfl⟩
      have hms : (d.toList.mergeSort fun x y => !(ltOf cfn) y x).map enc = (l.mergeSort fun a b => decide (key a ≤ key b)).map c := by
        have e1 : (d.toList.mergeSort fun x y => !(ltOf cfn) y x).map Subtype.val = (l.mergeSort fun a b => decide (key a ≤ key b)) := by
          rw [List.map_mergeSort (s := fun a b => decide (key a ≤ key b)) (fun a _ b _ => by rw [hlt]; by_cases hh : key b.1 < key a.1 <;> simp [hh] <;> omega)]
          congr 1
          show List.map Subtype.val l.attach = l
          simp
        rw [← e1, List.map_map]; rfl
      have hsl : (d.toList.mergeSort fun x y => !(ltOf cfn) y x).toArray.size = l.length := by rw [List.size_toArray, List.length_mergeSort]; exact hds
      obtain ⟨cur', q1, q2, q3, q4⟩ := Xnf enc k hk (fun x => hc x.1) w g n (d.toList.mergeSort fun x y => !(ltOf cfn) y x).toArray os e cur hb (by rw [hsl, ← hds]; exact hle)
      rw [hsl, List.toList_toArray, hms] at q3
      refine ⟨_, rfl, ⟨?_, .inr ⟨hz, cap, cur', ?_, q1, ?_, ?_, ?_, ?_⟩⟩, by rw [hz]; exact q4⟩
      · exact Xbg fun x _ => ⟨hc x, h1 x⟩
      · rw [List.length_map, List.length_mergeSort]
      · rw [List.length_map, List.length_mergeSort]; exact hn
      · exact hcap
      · rw [q2]; exact hsz
      · rw [List.length_map, List.length_mergeSort]; exact q3
end
end Go.Sx

end
section
set_option linter.unusedVariables false
set_option linter.unusedSimpArgs false
set_option maxRecDepth 100000
namespace Go.Proofs.YtjdffpglgkefmaaGreat.Mx
open Go Go.RowKit Go.Sx Go.Proofs Go.Shelf Go.Lib Go.Sort
def Qu9 : Go.Shelf.Ren := ⟨fun | 6 => 119 | 15 => 194 | 14 => 193 | 28 => 249 | 29 => 250 | 20 => 241 | 21 => 242 | 22 => 243 | 23 => 244 | 24 => 245 | 25 => 246 | 26 => 247 | 27 => 248 | 46 => 258 | 47 => 259 | 48 => 260 | 49 => 261 | 50 => 262 | 57 => 263 | n => n, fun | 22 => 107 | 24 => 131 | 25 => 187 | 3 => 3 | 39 => 150 | 0 => 0 | 53 => 299 | 55 => 24 | 4 => 4 | 46 => 293 | 45 => 292 | 50 => 154 | 5 => 5 | 9 => 9 | 66 => 304 | 70 => 308 | 76 => 310 | 77 => 230 | n => n, fun | n => n⟩
theorem Xln : Go.Proofs.SlLaysF0.n6 Tryz.prog Qu9 := {
  mixed := by kernel_rfl
  f6 := ⟨Tryz.f119.name, by decide, Tryz.func119.trans (congrArg some (by kernel_rfl))⟩
  f14 := ⟨Tryz.f193.name, by decide, Tryz.func193.trans (congrArg some (by kernel_rfl))⟩
  f15 := Tryz.func194.trans (congrArg some (by kernel_rfl))
  f20 := ⟨Tryz.f241.name, by decide, Tryz.func241.trans (congrArg some (by kernel_rfl))⟩
  f21 := ⟨Tryz.f242.name, by decide, Tryz.func242.trans (congrArg some (by kernel_rfl))⟩
  f22 := ⟨Tryz.f243.name, by decide, Tryz.func243.trans (congrArg some (by kernel_rfl))⟩
  f23 := ⟨Tryz.f244.name, by decide, Tryz.func244.trans (congrArg some (by kernel_rfl))⟩
  f24 := ⟨Tryz.f245.name, by decide, Tryz.func245.trans (congrArg some (by kernel_rfl))⟩
  f25 := ⟨Tryz.f246.name, by decide, Tryz.func246.trans (congrArg some (by kernel_rfl))⟩
  f26 := ⟨Tryz.f247.name, by decide, Tryz.func247.trans (congrArg some (by kernel_rfl))⟩
  f27 := ⟨Tryz.f248.name, by decide, Tryz.func248.trans (congrArg some (by kernel_rfl))⟩
  f28 := Tryz.func249.trans (congrArg some (by kernel_rfl))
  f29 := Tryz.func250.trans (congrArg some (by kernel_rfl))
  f46 := ⟨Tryz.f258.name, by decide, Tryz.func258.trans (congrArg some (by kernel_rfl))⟩
  f47 := Tryz.func259.trans (congrArg some (by kernel_rfl))
  f48 := Tryz.func260.trans (congrArg some (by kernel_rfl))
  f49 := ⟨Tryz.f261.name, by decide, Tryz.func261.trans (congrArg some (by kernel_rfl))⟩
  f50 := ⟨Tryz.f262.name, by decide, Tryz.func262.trans (congrArg some (by kernel_rfl))⟩
  f57 := ⟨Tryz.f263.name, by decide, Tryz.func263.trans (congrArg some (by kernel_rfl))⟩
  t0 := Tryz.underlying0
  a0 := Tryz.isAgg0
  z0 := Tryz.sizeOf0
  v0 := Tryz.zeroValue0
  t3 := Tryz.underlying3
  a3 := Tryz.isAgg3
  z3 := Tryz.sizeOf3
  v3 := Tryz.zeroValue3
  t4 := Tryz.underlying4
  a4 := Tryz.isAgg4
  z4 := Tryz.sizeOf4
  v4 := Tryz.zeroValue4
  t5 := Tryz.underlying5
  a5 := Tryz.isAgg5
  z5 := Tryz.sizeOf5
  v5 := Tryz.zeroValue5
  t9 := Tryz.underlying9
  a9 := Tryz.isAgg9
  z9 := Tryz.sizeOf9
  v9 := Tryz.zeroValue9
  t22 := Tryz.underlying107
  a22 := Tryz.isAgg107
  z22 := Tryz.sizeOf107
  v22 := Tryz.zeroValue107
  t25 := Tryz.underlying187
  a25 := Tryz.isAgg187
  z25 := Tryz.sizeOf187
  v25 := Tryz.zeroValue187
  t39 := Tryz.underlying150
  a39 := Tryz.isAgg150
  z39 := Tryz.sizeOf150
  v39 := Tryz.zeroValue150
  t45 := Tryz.underlying292
  a45 := Tryz.isAgg292
  z45 := Tryz.sizeOf292
  v45 := Tryz.zeroValue292
  t46 := Tryz.underlying293
  a46 := Tryz.isAgg293
  z46 := Tryz.sizeOf293
  v46 := Tryz.zeroValue293
  t50 := Tryz.underlying154
  a50 := Tryz.isAgg154
  z50 := Tryz.sizeOf154
  v50 := Tryz.zeroValue154
  t53 := Tryz.underlying299
  a53 := Tryz.isAgg299
  z53 := Tryz.sizeOf299
  v53 := Tryz.zeroValue299
  t55 := Tryz.underlying24
  a55 := Tryz.isAgg24
  z55 := Tryz.sizeOf24
  v55 := Tryz.zeroValue24
  t66 := Tryz.underlying304
  a66 := Tryz.isAgg304
  z66 := Tryz.sizeOf304
  v66 := Tryz.zeroValue304
  t70 := Tryz.underlying308
  a70 := Tryz.isAgg308
  z70 := Tryz.sizeOf308
  v70 := Tryz.zeroValue308
  t76 := Tryz.underlying310
  a76 := Tryz.isAgg310
  z76 := Tryz.sizeOf310
  v76 := Tryz.zeroValue310
  t77 := Tryz.underlying230
  a77 := Tryz.isAgg230
  z77 := Tryz.sizeOf230
  v77 := Tryz.zeroValue230 }
theorem Xip {a b : Int} (ha : 0 ≤ a ∧ a < 4611686018427387904) (hb : 0 ≤ b ∧ b < 4611686018427387904) : IntKind.i64.wrap (a - b) = a - b := by rw [IntKind.wrap_i64]; omega
set_option maxHeartbeats 1000000 in
theorem Xkk (x y : Qak) (W : World) (hx : 0 ≤ x.Node ∧ x.Node < 4611686018427387904) (hy : 0 ≤ y.Node ∧ y.Node < 4611686018427387904) : Calls Tryz.prog 120 #[.agg #[.int .i64 x.Node, .int .i64 x.Minus], .agg #[.int .i64 y.Node, .int .i64 y.Minus]] W fun e w' => e = .returned (.int .i64 (x.Node - y.Node)) ∧ ∃ q os', w' = grow (W.drewN q) os' := by
  have hw := Xip hx hy
  go_enter Tryz.func120, Tryz.ntmps120
  go_wp2
  go_ret
  exact ⟨rfl, 0, _, by rw [alloc_eq_grow, alloc_eq_grow, grow_grow]; rfl⟩
theorem Xb5 {l m : List Qak} (hm : Qya Qak.Node l = some m) (w : World) (z g : Nat) (v : Value) (h : Own w z g 131 2 v (l.map Qak.cs)) : Calls Tryz.prog 119 [v, .func (.func 120) #[] #[]].toArray w fun e' w' => ∃ v', e' = .returned v' ∧ (Own w' z g 131 2 v (m.map Qak.cs) ∧ Kz [(z, g)] w w') :=
  Xea (ρ := Qu9) Qak.cs 2 (fun _ => rfl) (fun x => Qak.cs_ones x) (by decide) Qak.Node 120 Xln (fun _ => by kernel_rfl) (fun _ => by kernel_rfl) (fun _ _ => by kernel_rfl) (fun x y W hx hy => Xkk x y W hx hy) hm w z g 131 v h
end Go.Proofs.YtjdffpglgkefmaaGreat.Mx

end
section
set_option linter.unusedVariables false
set_option linter.unusedSimpArgs false
namespace Go.Sx
open Go
theorem Qo3 {n : Nat} (h : n < 9223372036854775808) : n < Qdn := by unfold Qdn; omega
theorem Qh4 {n : Int} (h0 : -9223372036854775808 ≤ n) (h1 : n ≤ 9223372036854775807) : w64 n = n := by
  have := IntKind.wrap_i64 n
  unfold w64; rw [this]; omega
theorem bind_some {α β : Type} (a : α) (f : α → Option β) : Option.bind (some a) f = f a := rfl
theorem Qgn {α : Type} {b : Nat} {l m : List α} (h : (l.length + m.length) * b ≤ 140737488355328) : Qst b l m = some (l ++ m) := if_pos h
theorem Qjh {α : Type} {l : List α} {i : Nat} (h : i < l.length) : Qi2 l (i : Int) = some l[i] := by unfold Qi2; rw [if_pos (by omega)]; simp [h]
theorem Qw8 {α : Type} (l : List α) (i : Nat) (h : i < l.length) : l.take (i + 1) = l.take i ++ [l[i]] := by rw [List.take_add_one]; simp [h]
def w8 (x : BitVec 64) : List (BitVec 8) := [byt x 0, byt x 1, byt x 2, byt x 3, byt x 4, byt x 5, byt x 6, byt x 7]
end Go.Sx

end
section
set_option linter.unusedVariables false
set_option linter.unusedSimpArgs false
namespace Go.Sx
open Go
theorem Qjz (n k : Nat) (h : 2 ^ k ≤ n) : Nat.log2 n = Nat.log2 (n / 2 ^ k) + k := by
  induction k generalizing n with
  | zero => simp
  | succ k ih =>
    have h2 : 2 ^ k ≤ n / 2 := by rw [Nat.le_div_iff_mul_le (by omega)]; rw [Nat.pow_succ] at h; omega
    have h1 : 2 ≤ n := by have : 0 < 2 ^ k := Nat.two_pow_pos k; rw [Nat.pow_succ] at h; omega
    rw [Nat.log2_def, if_pos h1, ih (n / 2) h2, Nat.div_div_eq_div_mul, Nat.pow_succ, Nat.mul_comm 2]; omega
theorem Qqx {n : Nat} (h : 2 ≤ n) : Nat.log2 n = Nat.log2 (n / 2) + 1 := by rw [Nat.log2_def, if_pos h]
theorem Xbx {m n : Nat} (h : m ≤ n) : Nat.log2 m ≤ Nat.log2 n := by
  rcases Nat.eq_zero_or_pos m with h0 | h0
  · subst h0; rw [Nat.log2_zero]; omega
  · exact (Nat.le_log2 (by omega)).2 (Nat.le_trans (Nat.log2_self_le (by omega)) h)
theorem Qxd {n : Nat} (h : n < 9223372036854775808) : Nat.log2 n ≤ 62 := by
  rcases Nat.eq_zero_or_pos n with h0 | h0
  · subst h0; rw [Nat.log2_zero]; omega
  · have : Nat.log2 n < 63 := (Nat.log2_lt (by omega)).2 (by omega)
    omega
theorem Xl6 {n : Nat} (h : n < 9223372036854775808) : un (wd (n : Int)) = (n : Int) := Xfc _ (by omega) (by omega)
theorem Xlb {n : Nat} (h : 1 ≤ n) : lg (n : Int) = (Nat.log2 n : Int) + 1 := by unfold lg; rw [Int.toNat_natCast, if_neg (by omega)]
theorem Qup {n : Nat} (h1 : 1 ≤ n) (h : n < 9223372036854775808) : Qco (n : Int) = some (Nat.log2 n : Int) := by
  have := Qxd h
  unfold Qco
  rw [Xl6 h, Xlb h1, Qh4 (by omega) (by omega), Int.add_sub_cancel]
def Qoy (w v : Nat) : Bool := decide (Nat.log2 v ≤ Nat.log2 w ∧ w / 2 ^ (Nat.log2 w - Nat.log2 v) = v)
theorem Qy3 (n k : Nat) (hk : k ≤ 64) : Xdy (n : Int) k = ((n / 2 ^ k : Nat) : Int) := by
  unfold Xdy
  rw [Nat.min_eq_left hk, Int.natCast_ediv, Int.natCast_pow]; rfl
def Xdd (d : Nat) : Nat := if d ≤ 1 then 1 else if d ≤ 4 then 2 else 3
theorem Xee (d : Nat) : 1 ≤ Xdd d := by unfold Xdd; split; omega; split <;> omega
theorem Qhx {d : Nat} (h : d ≤ 6) : 2 ^ d ≤ 64 := Nat.le_trans (Nat.pow_le_pow_right (by omega) h) (by decide)
theorem Xoq {d : Nat} (h : d ≤ 6) : Qvz 1 d = ((2 ^ d : Nat) : Int) := by
  have := Qhx h
  unfold Qvz
  rw [Nat.min_eq_left (by omega), Int.one_mul, show (2 : Int) ^ d = ((2 ^ d : Nat) : Int) from by rw [Int.natCast_pow]; rfl]
  generalize 2 ^ d = m at *
  exact Qh4 (by omega) (by omega)
theorem Xax (n : Nat) : shG (n : Int) = some n := by unfold shG; rw [if_pos (by omega)]; rfl
theorem Qy2 {k : BitVec 8} {d : Nat} {st : Int} (h : d ≤ 6) : Qet ⟨k, (d : Int), st⟩ = some ((2 ^ d : Nat) : Int) := by
  unfold Qet
  rw [Xax, bind_some, Xoq h]
def Xo7 (d : Nat) (v : Int) : Bool := decide (1 ≤ v ∧ v < 2 * (2 ^ d : Nat))
theorem Xg2 {k : BitVec 8} {d : Nat} {st v : Int} (h : d ≤ 6) : Qgt ⟨k, (d : Int), st⟩ v = some (Xo7 d v) := by
  have := Qhx h
  unfold Qgt Xo7
  by_cases h1 : 1 ≤ v
  · rw [if_pos h1, Qy2 h, bind_some]
    generalize 2 ^ d = m at *
    rw [Qh4 (by omega) (by omega)]
    congr 1; apply decide_eq_decide.2; omega
  · rw [if_neg h1]; congr 1; symm; apply decide_eq_false; omega
def Xfd (d v : Nat) : Bool := decide (Nat.log2 v % Xdd d = 0)
theorem Xix (a b : Nat) (hb : 1 ≤ b) : Qvx (a : Int) (b : Int) = some ((a % b : Nat) : Int) := by
  unfold Qvx
  rw [if_neg (by omega), Int.tmod_eq_emod_of_nonneg (by omega), Int.natCast_emod]
theorem Qul {k : BitVec 8} {d v : Nat} (hv : 1 ≤ v) (hv2 : v < 9223372036854775808) : Qcw ⟨k, (d : Int), (Xdd d : Int)⟩ (v : Int) = some (Xfd d v) := by
  unfold Qcw Xfd
  rw [Qup hv hv2, bind_some, Xix _ _ (Xee d), bind_some]
  congr 1; apply decide_eq_decide.2; omega
def Qs6 (w : Nat) : Nat → List Nat
  | 0 => []
  | k + 1 => w / 2 ^ k :: Qs6 w k
theorem Xey {w k n : Nat} (hk : 2 ^ k ≤ w) (h : n ∈ Qs6 w k) : 1 ≤ n ∧ n ≤ w := by
  induction k with
  | zero => cases h
  | succ k ih =>
    have hk' : 2 ^ k ≤ w := by rw [Nat.pow_succ] at hk; omega
    rcases List.mem_cons.1 h with rfl | h
    · exact ⟨(Nat.le_div_iff_mul_le (Nat.two_pow_pos k)).2 (by omega), Nat.div_le_self _ _⟩
    · exact ih hk' h
theorem Qtv {w k : Nat} (hk : 2 ^ k ≤ w) : Nat.log2 (w / 2 ^ k) = Nat.log2 w - k := by have := Qjz w k hk; omega
theorem Qzv {w k : Nat} (hk : 2 ^ k ≤ w) : 1 ≤ w / 2 ^ k := (Nat.le_div_iff_mul_le (Nat.two_pow_pos k)).2 (by omega)
theorem Xd3 {w k : Nat} (hk : 2 ^ (k + 1) ≤ w) (hw : w < 9223372036854775808) : Qda ((w / 2 ^ (k + 1) : Nat) : Int) (w : Int) = some ((w / 2 ^ k : Nat) : Int) := by
  have hp := Nat.two_pow_pos (k + 1)
  have l1 := Qxd hw
  have hl := Qjz w (k + 1) hk
  unfold Qda
  rw [Qup (by omega) hw, bind_some, Qup (Qzv hk) (Nat.lt_of_le_of_lt (Nat.div_le_self _ _) hw), bind_some, Qh4 (n := (Nat.log2 w : Int) - (Nat.log2 (w / 2 ^ (k + 1)) : Int)) (by omega) (by omega), Qh4 (by omega) (by omega)]
  rw [show (Nat.log2 w : Int) - (Nat.log2 (w / 2 ^ (k + 1)) : Int) - 1 = ((k : Nat) : Int) from by omega, Xax, bind_some, Qy3 _ _ (by omega)]
theorem Qwa {w : Nat} (hw : w < 9223372036854775808) : ∀ (k f : Nat), k < f → 2 ^ k ≤ w → Qcr (Qev (w : Int)) f ((w / 2 ^ k : Nat) : Int) = some ((Qs6 w k).map Int.ofNat)
  | k, 0, h, _ => by omega
  | 0, f + 1, _, _ => by
    rw [Qdw]; simp only [Qev]
    rw [if_neg (by simp)]; rfl
  | k + 1, f + 1, h, hk => by
    rw [Qdw]; simp only [Qev]
    have h1 : w / 2 ^ (k + 1) < w := Nat.div_lt_self (by have := Nat.two_pow_pos (k + 1); omega) (Nat.one_lt_two_pow (by omega))
    rw [if_pos (by omega), Xd3 hk hw, bind_some, Qwa hw k f (by omega) (by rw [Nat.pow_succ] at hk; omega)]
    rfl
theorem Xho {w k : Nat} (hw : w < 9223372036854775808) (hk : 2 ^ k ≤ w) (hk2 : k ≤ 64) : Qin ((w / 2 ^ k : Nat) : Int) (w : Int) = some ((Qs6 w k).map Int.ofNat) := Qwa hw k Qdn (Qo3 (by omega)) hk
theorem Xif {w j k : Nat} (hk : 2 ^ k ≤ w) (hj : j < k) : w / 2 ^ j ≠ w / 2 ^ k := fun e => by
  have h1 := Qtv hk
  have h2 := Qtv (w := w) (k := j) (Nat.le_trans (Nat.pow_le_pow_right (by omega) (by omega)) hk)
  have h3 := Qjz w k hk
  rw [e] at h2; omega
end Go.Sx

end
section
set_option linter.unusedVariables false
set_option linter.unusedSimpArgs false
namespace Go.Sx
open Go
def zG : Qfc := Qfc.mk 0#64 0#64 0#64
def Qzd (s : Qaj) : Bool := decide (1#8 ≤ s.Kind ∧ s.Kind ≤ 3#8 ∧ 0 ≤ s.Depth ∧ s.Depth ≤ 6 ∧ s.Degree = 0 ∧ s.Group = zG)
theorem Qwz {s : Qaj} (h : Qzd s = true) : ∃ d : Nat, s.Depth = (d : Int) ∧ d ≤ 6 := by
  unfold Qzd at h
  have := of_decide_eq_true h
  exact ⟨s.Depth.toNat, by omega, by omega⟩
theorem Qqh (s : Qaj) (n : Nat) (a : Int) : Qcr (Qes s) (n + 1) a = if w64 (a * a) < s.Depth then Qcr (Qes s) n (w64 (a + 1)) else some (Qa7.mk s.Kind s.Depth a, true) := rfl
theorem Qxi (s : Qaj) {d : Nat} (hd : s.Depth = (d : Int)) (h : d ≤ 6) : Qcr (Qes s) Qdn 1 = some (Qa7.mk s.Kind (d : Int) (Xdd d : Int), true) := by
  have e1 : w64 (1 * 1) = 1 := by decide
  have e2 : w64 (1 + 1) = 2 := by decide
  have e3 : w64 (2 * 2) = 4 := by decide
  have e4 : w64 (2 + 1) = 3 := by decide
  have e5 : w64 (3 * 3) = 9 := by decide
  rw [show Qdn = 18446744073709551613 + 3 from rfl, Qqh, e1, e2, hd]
  unfold Xdd
  by_cases h1 : d ≤ 1
  · rw [if_neg (by omega), if_pos h1, ← hd]; rfl
  · rw [if_pos (by omega), if_neg h1, show 18446744073709551613 + 2 = 18446744073709551614 + 1 from rfl, Qqh, e3, e4, hd]
    by_cases h2 : d ≤ 4
    · rw [if_neg (by omega), if_pos h2, ← hd]; rfl
    · rw [if_pos (by omega), if_neg h2, show 18446744073709551614 = 18446744073709551613 + 1 from rfl, Qqh, e5, hd, if_neg (by omega), ← hd]; rfl
def Qkc (s : Qaj) : Qa7 := Qa7.mk s.Kind s.Depth (Xdd s.Depth.toNat : Int)
theorem Xbs (s : Qaj) : Qiq s = some (if Qzd s then (Qkc s, true) else (Qa7.mk 0#8 0 0, false)) := by
  unfold Qiq Qe0
  by_cases hv : Qzd s = true
  · rw [if_pos hv]
    obtain ⟨d, hd, h6⟩ := Qwz hv
    unfold Qzd at hv
    obtain ⟨h1, h2, h3, h4, h5, h7⟩ := of_decide_eq_true hv
    have hs : s = Qaj.mk s.Kind s.Depth 0 (Qfc.mk 0#64 0#64 0#64) := by cases s; simp only at *; rw [h5, h7]; rfl
    rw [if_neg (by rw [BitVec.not_lt]; exact h1), if_neg (by rw [BitVec.not_lt]; exact h2), if_neg (by omega), if_neg (by omega), decide_eq_false (by simpa using hs)]
    simp only [cond_false]
    rw [Qxi s hd h6]
    unfold Qkc
    rw [hd, Int.toNat_natCast]
  · rw [if_neg hv]
    have hn : ¬ (1#8 ≤ s.Kind ∧ s.Kind ≤ 3#8 ∧ 0 ≤ s.Depth ∧ s.Depth ≤ 6 ∧ s.Degree = 0 ∧ s.Group = zG) := fun h => hv (by unfold Qzd; exact decide_eq_true h)
    by_cases h1 : s.Kind < 1#8
    · rw [if_pos h1]; rfl
    · rw [if_neg h1]
      by_cases h2 : 3#8 < s.Kind
      · rw [if_pos h2]; rfl
      · rw [if_neg h2]
        by_cases h3 : s.Depth < 0
        · rw [if_pos h3]; rfl
        · rw [if_neg h3]
          by_cases h4 : (6 : Int) < s.Depth
          · rw [if_pos h4]; rfl
          · rw [if_neg h4, decide_eq_true (p := s ≠ _)]
            · rfl
            · intro hs
              refine hn ⟨BitVec.not_lt.1 h1, BitVec.not_lt.1 h2, by omega, by omega, ?_, ?_⟩
              · rw [hs]
              · rw [hs]; rfl
def Xe1 (d : Nat) (l : List Nat) : Nat := (l.find? (Xfd d)).getD 0
theorem Qzr {k : BitVec 8} {d : Nat} : ∀ (l : List Nat), (∀ n ∈ l, 1 ≤ n ∧ n < 9223372036854775808) →
    itL (Qb8 ⟨k, (d : Int), (Xdd d : Int)⟩) Qbg (l.map Int.ofNat) 0 = some ((Xe1 d l : Nat) : Int)
  | [], _ => rfl
  | a :: l, h => by
    rw [List.map_cons, Qrk]
    simp only [Qb8]
    have ha := h a (by simp)
    rw [show (Int.ofNat a) = (a : Int) from rfl, Qul ha.1 ha.2, bind_some]
    unfold Xe1
    rw [List.find?_cons]
    cases hs : Xfd d a with
    | true => rfl
    | false => exact Qzr l (fun n hn => h n (by simp [hn]))
theorem Xe4 {m k : Nat} (h : 2 ^ (k + 1) ≤ m) : 2 ^ k ≤ m / 2 := by rw [Nat.le_div_iff_mul_le (by omega)]; rw [Nat.pow_succ] at h; omega
theorem Xll {kd : BitVec 8} {d m k : Nat} (hm : m < 128) (hk : 2 ^ (k + 1) ≤ m) (hk2 : k ≤ 60) : Qep ⟨kd, (d : Int), (Xdd d : Int)⟩ ((m / 2 ^ (k + 1) : Nat) : Int) (m : Int) = some ((Xe1 d (Qs6 (m / 2) k) : Nat) : Int) := by
  unfold Qep Qld Qbz
  rw [show shG (un 1#64) = some 1 from by decide, bind_some, bind_some, Qy3 _ _ (by omega), Nat.pow_one]
  simp only
  have e : m / 2 ^ (k + 1) = m / 2 / 2 ^ k := by rw [Nat.div_div_eq_div_mul, Nat.pow_succ, Nat.mul_comm 2]
  have hp := Xe4 hk
  rw [e, Xho (by omega) hp (by omega), bind_some, Qzr _ (fun n hn => by have := Xey hp hn; omega), bind_some]
end Go.Sx

end
section
set_option linter.unusedVariables false
set_option linter.unusedSimpArgs false
namespace Go.Sx
open Go
theorem Qz3 {α σ τ R : Type} (l : List α) (F : (τ → Option R) → τ → Option R) (pk : Nat → σ → τ) (B : α → (σ → Option R) → σ → Option R) (D : σ → Option R)
    (h1 : ∀ rec (j : Nat) (hj : j < l.length) s, F rec (pk j s) = B l[j] (fun s' => rec (pk (j + 1) s')) s) (h2 : ∀ rec s, F rec (pk l.length s) = D s) :
    ∀ (m j f : Nat) (s : σ), j + m = l.length → m < f → Qcr F f (pk j s) = itL B D (l.drop j) s
  | m, j, 0, s, _, h => by omega
  | 0, j, f + 1, s, hj, _ => by
    have : j = l.length := by omega
    subst this
    rw [Qdw, h2, List.drop_length]; rfl
  | m + 1, j, f + 1, s, hj, hf => by
    have hjl : j < l.length := by omega
    rw [Qdw, h1 _ j hjl, List.drop_eq_getElem_cons hjl, Qrk]
    have : (fun s' => Qcr F f (pk (j + 1) s')) = itL B D (l.drop (j + 1)) := funext fun s' => Qz3 l F pk B D h1 h2 m (j + 1) f s' (by omega) (by omega)
    rw [this]
theorem Xb8 {α σ τ R : Type} (l : List α) (F : (τ → Option R) → τ → Option R) (pk : Nat → σ → τ) (B : α → (σ → Option R) → σ → Option R) (D : σ → Option R)
    (h1 : ∀ rec (j : Nat) (hj : j < l.length) s, F rec (pk j s) = B l[j] (fun s' => rec (pk (j + 1) s')) s) (h2 : ∀ rec s, F rec (pk l.length s) = D s) {f : Nat} (hf : l.length < f) (s : σ) : Qcr F f (pk 0 s) = itL B D l s := by
  have := Qz3 l F pk B D h1 h2 l.length 0 f s (by omega) hf
  rwa [List.drop_zero] at this
theorem Xbm {σ τ R : Type} (n : Nat) (F : (τ → Option R) → τ → Option R) (pk : Nat → σ → τ) (B : Nat → (σ → Option R) → σ → Option R) (D : σ → Option R)
    (h1 : ∀ rec (j : Nat) (hj : j < n) s, F rec (pk j s) = B j (fun s' => rec (pk (j + 1) s')) s) (h2 : ∀ rec s, F rec (pk n s) = D s) {f : Nat} (hf : n < f) (s : σ) : Qcr F f (pk 0 s) = itL B D (List.range n) s :=
  Xb8 (List.range n) F pk B D (fun rec j hj s => by rw [List.length_range] at hj; rw [h1 rec j hj, List.getElem_range]) (fun rec s => by rw [List.length_range]; exact h2 rec s) (by rw [List.length_range]; exact hf) s
theorem Qyq {α σ R : Type} (g : σ → α → σ) (F : α → (σ → Option R) → σ → Option R) (d : σ → Option R) (I : Nat → σ → Prop) : ∀ (l : List α) (k : Nat) (s : σ), (∀ j (a : α) s nx, a ∈ l → I j s → F a nx s = nx (g s a)) → (∀ j (a : α) s, a ∈ l → I j s → I (j + 1) (g s a)) → I k s → itL F d l s = d (l.foldl g s)
  | [], k, s, _, _, _ => rfl
  | a :: l, k, s, h, hi, hs => by
    rw [Qrk, h k a s _ (by simp) hs, List.foldl_cons]
    exact Qyq g F d I l (k + 1) (g s a) (fun j b s nx hb => h j b s nx (by simp [hb])) (fun j b s hb => hi j b s (by simp [hb])) (hi k a s (by simp) hs)
theorem Qo0 {n : Nat} (h : n < 9223372036854775807) : w64 ((n : Int) + 1) = ((n + 1 : Nat) : Int) := by rw [Qh4 (by omega) (by omega)]; omega
end Go.Sx

end
section
set_option linter.unusedVariables false
set_option linter.unusedSimpArgs false
namespace Go.Sx
open Go
theorem Xi6 {k : BitVec 8} {d u : Nat} {st : Int} (h : d ≤ 6) (hu : u < 128) : Qez ⟨k, (d : Int), st⟩ (u : Int) = some ((2 ^ d + u : Nat) : Int) := by
  have := Qhx h
  unfold Qez
  rw [Qy2 h, bind_some]
  generalize 2 ^ d = m at *
  rw [Qh4 (by omega) (by omega)]; congr 1
theorem Xjz (s : Qaj) : Qhl s ([] : List Qak) = some (if Qzd s then (Qkc s, 0) else (Qa7.mk 0#8 0 0, 30)) := by
  unfold Qhl
  rw [Xbs, bind_some]
  cases hv : Qzd s with
  | false => rfl
  | true => rfl
end Go.Sx

end
section
set_option linter.unusedVariables false
set_option linter.unusedSimpArgs false
set_option maxRecDepth 100000
namespace Go.Sx
open Go
def Xhv (k : BitVec 8) (d v w : Nat) : Bool := decide (k = 2#8) || Xfd d v || decide (Xe1 d (Qs6 (w / 2) (Nat.log2 w - Nat.log2 v - 1)) = 0)
theorem Xad {k : BitVec 8} (h1 : 1#8 ≤ k) (h3 : k ≤ 3#8) : k = 1#8 ∨ k = 2#8 ∨ k = 3#8 := by
  have a : 1 ≤ k.toNat := h1
  have b : k.toNat ≤ 3 := h3
  rcases (show k.toNat = 1 ∨ k.toNat = 2 ∨ k.toNat = 3 by omega) with h | h | h
  · exact .inl (BitVec.eq_of_toNat_eq h)
  · exact .inr (.inl (BitVec.eq_of_toNat_eq h))
  · exact .inr (.inr (BitVec.eq_of_toNat_eq h))
theorem Xex {s : Qaj} (h : Qzd s = true) : 1#8 ≤ s.Kind ∧ s.Kind ≤ 3#8 := by
  unfold Qzd at h
  have := of_decide_eq_true h
  exact ⟨this.1, this.2.1⟩
end Go.Sx

end
section
set_option linter.unusedVariables false
set_option linter.unusedSimpArgs false
set_option maxRecDepth 100000
namespace Go.Sx
open Go
theorem Qix {w v : Nat} (hw : 1 ≤ w) : Qoy w v = true ↔ ∃ k, 2 ^ k ≤ w ∧ v = w / 2 ^ k := by
  constructor
  · intro h
    unfold Qoy at h
    obtain ⟨h1, h2⟩ := of_decide_eq_true h
    exact ⟨_, Nat.le_trans (Nat.pow_le_pow_right (by omega) (by omega)) (Nat.log2_self_le (by omega)), h2.symm⟩
  · rintro ⟨k, h1, rfl⟩
    unfold Qoy
    have h2 := Qtv h1
    have h3 := Qjz w k h1
    apply decide_eq_true
    refine ⟨by omega, ?_⟩
    rw [h2, show Nat.log2 w - (Nat.log2 w - k) = k from by omega]
theorem Xd4 {w v : Nat} (hw : 1 ≤ w) (h : Qoy w v = true) : 1 ≤ v := by
  obtain ⟨k, h1, rfl⟩ := (Qix hw).1 h
  exact Qzv h1
theorem Qui {w i j : Nat} (h : 2 ^ (i + j) ≤ w) : 2 ^ j ≤ w / 2 ^ i := by
  rw [Nat.le_div_iff_mul_le (Nat.two_pow_pos i), ← Nat.pow_add, Nat.add_comm]; exact h
theorem Qqu {w i j : Nat} (h : 2 ^ j ≤ w / 2 ^ i) : 2 ^ (i + j) ≤ w := by
  rw [Nat.le_div_iff_mul_le (Nat.two_pow_pos i), ← Nat.pow_add, Nat.add_comm] at h; exact h
theorem Xcf {w v : Nat} (hw : 1 ≤ w) (h : Qoy w v = true) : Nat.log2 v ≤ Nat.log2 w := by
  unfold Qoy at h
  exact (of_decide_eq_true h).1
theorem Qtx : ∀ n : Fin 128, (n.1 ^^^ 1) / 2 = n.1 / 2 ∧ n.1 ^^^ 1 ≠ n.1 ∧ n.1 ^^^ 1 < 128 ∧ (2 ≤ n.1 → Nat.log2 (n.1 ^^^ 1) = Nat.log2 n.1 ∧ 2 ≤ n.1 ^^^ 1) ∧ n.1 ^^^ 1 ^^^ 1 = n.1 := by decide +kernel
theorem Xed {n : Nat} (h : n < 128) : (n ^^^ 1) / 2 = n / 2 := (Qtx ⟨n, h⟩).1
theorem Xla {n : Nat} (h : n < 128) : n ^^^ 1 < 128 := (Qtx ⟨n, h⟩).2.2.1
theorem Xiy {n : Nat} (h : n < 128) (h2 : 2 ≤ n) : Nat.log2 (n ^^^ 1) = Nat.log2 n := ((Qtx ⟨n, h⟩).2.2.2.1 h2).1
theorem Qua {n : Nat} (h : n < 128) (h2 : 2 ≤ n) : 2 ≤ n ^^^ 1 := ((Qtx ⟨n, h⟩).2.2.2.1 h2).2
theorem Xbp {n : Nat} (h : n < 128) : n ^^^ 1 ^^^ 1 = n := (Qtx ⟨n, h⟩).2.2.2.2
theorem Xhl {n : Nat} (h : n < 128) : Xmi .xor (n : Int) 1 = ((n ^^^ 1 : Nat) : Int) := by
  have : ∀ n : Fin 128, Xmi .xor (n.1 : Int) 1 = ((n.1 ^^^ 1 : Nat) : Int) := by decide +kernel
  exact this ⟨n, h⟩
theorem Xbj {w k n : Nat} : n ∈ Qs6 w k ↔ ∃ j, j < k ∧ n = w / 2 ^ j := by
  induction k with
  | zero => simp [Qs6]
  | succ k ih =>
    rw [Qs6, List.mem_cons, ih]
    constructor
    · rintro (rfl | ⟨j, hj, rfl⟩)
      · exact ⟨k, by omega, rfl⟩
      · exact ⟨j, by omega, rfl⟩
    · rintro ⟨j, hj, rfl⟩
      rcases Nat.lt_or_ge j k with h | h
      · exact .inr ⟨j, h, rfl⟩
      · obtain rfl : j = k := by omega
        exact .inl rfl
theorem Xej {d u : Nat} (hu : u < 2 ^ d) : Nat.log2 (2 ^ d + u) = d := by
  rw [Nat.log2_eq_iff (by have := Nat.two_pow_pos d; omega), Nat.pow_succ]; omega
theorem Qz5 {d n : Nat} (h1 : 1 ≤ n) (h : n < 2 ^ (d + 1)) : Nat.log2 n ≤ d := by
  have := (Nat.log2_lt (n := n) (k := d + 1) (by omega)).2 h; omega
end Go.Sx

end
section
set_option linter.unusedVariables false
set_option linter.unusedSimpArgs false
set_option maxRecDepth 100000
namespace Go.Sx
open Go
def Qkf (d : Nat) (R : List Nat) (v : Nat) : Bool := R.any fun u => Qoy (2 ^ d + u) v
theorem Qp0 {d : Nat} {R : List Nat} {v : Nat} : Qkf d R v = true ↔ ∃ u ∈ R, Qoy (2 ^ d + u) v = true := by unfold Qkf; rw [List.any_eq_true]
theorem Xd7 : ∀ n : Fin 64, (2 * n.1) ^^^ 1 = 2 * n.1 + 1 ∧ (2 * n.1 + 1) ^^^ 1 = 2 * n.1 := by decide +kernel
theorem Xoc {n : Nat} (h : n < 64) : (2 * n) ^^^ 1 = 2 * n + 1 := (Xd7 ⟨n, h⟩).1
theorem Xo5 {n : Nat} (h : n < 64) : (2 * n + 1) ^^^ 1 = 2 * n := (Xd7 ⟨n, h⟩).2
theorem Qpl (a b : Nat) : a / 2 ^ (b + 1) = a / 2 ^ b / 2 := by rw [Nat.pow_succ, Nat.div_div_eq_div_mul]
theorem Quk {L v : Nat} (hL : 1 ≤ L) (hlt : Nat.log2 v < Nat.log2 L) (hv : 1 ≤ v) : Qoy L v = (Qoy L (2 * v) || Qoy L (2 * v + 1)) := by
  rw [Bool.eq_iff_iff, Bool.or_eq_true, Qix hL, Qix hL, Qix hL]
  constructor
  · rintro ⟨k, h1, h2⟩
    have hl := Qjz L k h1
    rw [← h2] at hl
    obtain ⟨j, rfl⟩ : ∃ j, k = j + 1 := ⟨k - 1, by omega⟩
    have h3 : 2 ^ j ≤ L := Nat.le_trans (Nat.pow_le_pow_right (by omega) (by omega)) h1
    rw [Qpl] at h2
    rcases (show L / 2 ^ j = 2 * v ∨ L / 2 ^ j = 2 * v + 1 by omega) with e | e
    · exact .inl ⟨j, h3, e.symm⟩
    · exact .inr ⟨j, h3, e.symm⟩
  · rintro (⟨j, h1, h2⟩ | ⟨j, h1, h2⟩)
    · exact ⟨j + 1, Qqu (j := 1) (by rw [← h2]; omega), by rw [Qpl, ← h2]; omega⟩
    · exact ⟨j + 1, Qqu (j := 1) (by rw [← h2]; omega), by rw [Qpl, ← h2]; omega⟩
theorem Qpq {v b : Nat} (hv : 1 ≤ v) (hb : b < 2) : Nat.log2 (2 * v + b) = Nat.log2 v + 1 := by
  rw [Qqx (by omega), show (2 * v + b) / 2 = v from by omega]
section
variable {d : Nat} {R : List Nat}
def Rcv (d : Nat) (R : List Nat) : Prop := d ≤ 6 ∧ ∀ u ∈ R, u < 2 ^ d
theorem Rcv.leaf (h : Rcv d R) {u : Nat} (hu : u ∈ R) : 1 ≤ 2 ^ d + u ∧ 2 ^ d + u < 128 ∧ Nat.log2 (2 ^ d + u) = d := by
  have := Qhx h.1
  have := h.2 u hu
  have := Nat.two_pow_pos d
  exact ⟨by omega, by omega, Xej (h.2 u hu)⟩
theorem Xie {v : Nat} (hv : 1 ≤ v) : v < 2 ^ d ↔ Nat.log2 v < d := by rw [Nat.log2_lt (by omega)]
theorem Qvi (h : Rcv d R) {v : Nat} (hv : 1 ≤ v) (hl : Nat.log2 v < d) : Qkf d R v = (Qkf d R (2 * v) || Qkf d R (2 * v + 1)) := by
  rw [Bool.eq_iff_iff, Bool.or_eq_true, Qp0, Qp0, Qp0]
  constructor
  · rintro ⟨u, hu, hb⟩
    obtain ⟨h1, h2, h3⟩ := h.leaf hu
    rw [Quk h1 (by omega) hv, Bool.or_eq_true] at hb
    rcases hb with hb | hb
    · exact .inl ⟨u, hu, hb⟩
    · exact .inr ⟨u, hu, hb⟩
  · rintro (⟨u, hu, hb⟩ | ⟨u, hu, hb⟩) <;>
    · obtain ⟨h1, h2, h3⟩ := h.leaf hu
      refine ⟨u, hu, ?_⟩
      rw [Quk h1 (by omega) hv, hb]; simp
theorem Qq9 (h : Rcv d R) {v : Nat} (hv : Qkf d R v = true) : 1 ≤ v ∧ Nat.log2 v ≤ d ∧ v < 2 ^ (d + 1) := by
  obtain ⟨u, hu, hb⟩ := Qp0.1 hv
  obtain ⟨h1, h2, h3⟩ := h.leaf hu
  have hp := Xd4 h1 hb
  have hl := Xcf h1 hb
  rw [h3] at hl
  exact ⟨hp, hl, (Nat.log2_lt (by omega)).1 (by omega)⟩
theorem Xga (h : Rcv d R) {v : Nat} (hv : Qkf d R v = true) (h2 : 2 ≤ v) : Qkf d R (v / 2) = true := by
  obtain ⟨h1, hl, _⟩ := Qq9 h hv
  have hh := Qqx h2
  rw [Qvi h (by omega) (by omega)]
  rcases (show 2 * (v / 2) = v ∨ 2 * (v / 2) + 1 = v by omega) with e | e
  · rw [e, hv]; simp
  · rw [e, hv]; simp
theorem Xc1 (h : Rcv d R) {v : Nat} (hv : Qkf d R v = true) : ∀ k, 2 ^ k ≤ v → Qkf d R (v / 2 ^ k) = true
  | 0, _ => by simpa using hv
  | k + 1, hk => by
    rw [Qpl]
    have h1 : 2 ^ k ≤ v := Nat.le_trans (Nat.pow_le_pow_right (by omega) (by omega)) hk
    refine Xga h (Xc1 h hv k h1) ?_
    have := Qui (i := k) (j := 1) hk
    simpa using this
def brN (d : Nat) (R : List Nat) (v : Nat) : Bool := Qkf d R (2 * v) != Qkf d R (2 * v + 1)
def nxN (d : Nat) (R : List Nat) (v : Nat) : Nat := if Qkf d R (2 * v) then 2 * v else 2 * v + 1
def Qht (d : Nat) (R : List Nat) : Nat → Nat → Nat
  | 0, v => v
  | f + 1, v => if brN d R v then Qht d R f (nxN d R v) else v
theorem Qz8 (h : Rcv d R) {v : Nat} (hv : 1 ≤ v) (hb : brN d R v = true) : Nat.log2 v < d ∧ Qkf d R v = true := by
  unfold brN at hb
  have hx : Qkf d R (2 * v) = true ∨ Qkf d R (2 * v + 1) = true := by
    cases h1 : Qkf d R (2 * v) <;> cases h2 : Qkf d R (2 * v + 1) <;> simp_all
  have hl : Nat.log2 v < d := by
    rcases hx with hx | hx
    · have := (Qq9 h hx).2.1; have := Qpq hv (b := 0) (by omega); simp at this; omega
    · have := (Qq9 h hx).2.1; have := Qpq hv (b := 1) (by omega); omega
  refine ⟨hl, ?_⟩
  rw [Qvi h hv hl]
  rcases hx with hx | hx <;> simp [hx]
def Chn (d : Nat) (R : List Nat) (v w : Nat) : Prop := ∃ k, 2 ^ k ≤ w ∧ v = w / 2 ^ k ∧ ∀ j, j < k → Qkf d R (w / 2 ^ j) = true ∧ Qkf d R ((w / 2 ^ j) ^^^ 1) = false
theorem Qqz (h : Rcv d R) : ∀ (f v : Nat), 1 ≤ v → Nat.log2 v ≤ d → d - Nat.log2 v < f → 1 ≤ Qht d R f v ∧ Nat.log2 (Qht d R f v) ≤ d ∧ brN d R (Qht d R f v) = false ∧ Chn d R v (Qht d R f v)
  | 0, v, _, _, hf => by omega
  | f + 1, v, hv, hl, hf => by
    unfold Qht
    cases hb : brN d R v with
    | false => exact ⟨by simpa using hv, by simpa using hl, by simpa using hb, ⟨0, by simpa using hv, by simp, fun j hj => by omega⟩⟩
    | true =>
      rw [if_pos rfl]
      obtain ⟨hl2, _⟩ := Qz8 h hv hb
      have h64 := Qhx h.1
      have hv64 : v < 64 := by have := (Xie (d := d) hv).2 hl2; omega
      have hc : (nxN d R v) / 2 = v ∧ 2 ≤ nxN d R v ∧ Nat.log2 (nxN d R v) = Nat.log2 v + 1 ∧ Qkf d R (nxN d R v) = true ∧ Qkf d R (nxN d R v ^^^ 1) = false := by
        unfold nxN
        unfold brN at hb
        cases h1 : Qkf d R (2 * v) with
        | true =>
          rw [h1] at hb
          rw [if_pos rfl]
          refine ⟨by omega, by omega, Qpq hv (b := 0) (by omega), h1, ?_⟩
          rw [Xoc hv64]; simpa using hb
        | false =>
          rw [h1] at hb
          rw [if_neg (by simp)]
          refine ⟨by omega, by omega, Qpq hv (b := 1) (by omega), by simpa using hb, ?_⟩
          rw [Xo5 hv64]; exact h1
      obtain ⟨c1, c2, c3, c4, c5⟩ := hc
      obtain ⟨g1, g2, g3, k, g4, g5, g6⟩ := Qqz h f (nxN d R v) (by omega) (by omega) (by omega)
      refine ⟨g1, g2, g3, k + 1, ?_, ?_, ?_⟩
      · exact Qqu (j := 1) (by rw [← g5]; omega)
      · rw [Qpl, ← g5]; exact c1.symm
      · intro j hj
        rcases Nat.lt_or_ge j k with hjk | hjk
        · exact g6 j hjk
        · obtain rfl : j = k := by omega
          rw [← g5]; exact ⟨c4, c5⟩
def hdN (d : Nat) (R : List Nat) : Nat → Nat → Nat
  | 0, x => x
  | f + 1, x => if x = 1 ∨ Qkf d R (x ^^^ 1) = true then x else hdN d R f (x / 2)
def Xae (d : Nat) (R : List Nat) (v : Nat) : Bool := decide (v = 1) || Qkf d R (v ^^^ 1)
theorem Xcj {f x : Nat} (h : Xae d R x = true) : hdN d R f x = x := by
  cases f with
  | zero => rfl
  | succ f =>
    unfold hdN
    unfold Xae at h
    rw [Bool.or_eq_true, decide_eq_true_eq] at h
    rw [if_pos h]
theorem Qz2 {v w : Nat} (hv : Xae d R v = true) (hv1 : 1 ≤ v) : ∀ (j k f : Nat), 2 ^ (j + k) ≤ w → v = w / 2 ^ (j + k) → (∀ i, j ≤ i → i < j + k → Qkf d R ((w / 2 ^ i) ^^^ 1) = false) → k ≤ f → hdN d R f (w / 2 ^ j) = v
  | j, 0, f, h1, h2, _, _ => by rw [Nat.add_zero] at h2; rw [← h2]; exact Xcj hv
  | j, k + 1, 0, h1, h2, h3, hf => by omega
  | j, k + 1, f + 1, h1, h2, h3, hf => by
    unfold hdN
    have h4 := h3 j (by omega) (by omega)
    have h5 : w / 2 ^ j ≠ 1 := by
      have := Qui (w := w) (i := j) (j := 1) (Nat.le_trans (Nat.pow_le_pow_right (by omega) (by omega)) h1)
      simp at this; omega
    rw [if_neg (by rw [h4]; simp [h5]), ← Qpl]
    exact Qz2 hv hv1 (j + 1) k f (by rw [show j + 1 + k = j + (k + 1) from by omega]; exact h1) (by rw [show j + 1 + k = j + (k + 1) from by omega]; exact h2) (fun i h6 h7 => h3 i (by omega) (by omega)) (by omega)
theorem Qxh : ∀ (f x : Nat), 1 ≤ x → Nat.log2 x < f → Xae d R (hdN d R f x) = true ∧ ∃ i, 2 ^ i ≤ x ∧ hdN d R f x = x / 2 ^ i ∧ ∀ t, t < i → Xae d R (x / 2 ^ t) = false
  | 0, x, _, h => by omega
  | f + 1, x, hx, hf => by
    unfold hdN
    by_cases hc : x = 1 ∨ Qkf d R (x ^^^ 1) = true
    · rw [if_pos hc]; exact ⟨by unfold Xae; simpa using hc, 0, by simpa using hx, by simp, fun t ht => by omega⟩
    · rw [if_neg hc]
      have hx2 : 2 ≤ x := by rw [not_or] at hc; omega
      have hh := Qqx hx2
      obtain ⟨h1, i, h2, h3, h4⟩ := Qxh f (x / 2) (by omega) (by omega)
      refine ⟨h1, i + 1, ?_, ?_, ?_⟩
      · rw [Nat.pow_succ]; omega
      · rw [h3, Nat.div_div_eq_div_mul, Nat.pow_succ, Nat.mul_comm 2]
      · intro t ht
        cases t with
        | zero => simp only [Nat.pow_zero, Nat.div_one]; unfold Xae; simpa [not_or] using hc
        | succ t =>
          have := h4 t (by omega)
          rw [Nat.div_div_eq_div_mul, show 2 * 2 ^ t = 2 ^ (t + 1) from by rw [Nat.pow_succ, Nat.mul_comm]] at this; exact this
def Qvy (d v w : Nat) : Nat := Xe1 d (Qs6 (w / 2) (Nat.log2 w - Nat.log2 v - 1))
def Xk5 (k : BitVec 8) (d : Nat) (R : List Nat) (x : Nat) : Option Nat :=
  if k = 1#8 then (if !Qkf d R x && (decide (x = 1) || Qkf d R (x / 2)) then some 0 else none)
  else if Qkf d R x then
    (if Qht d R 7 (hdN d R 7 x) = hdN d R 7 x then none
    else if x = hdN d R 7 x then some (if Xhv k d (hdN d R 7 x) (Qht d R 7 (hdN d R 7 x)) then Qht d R 7 (hdN d R 7 x) else Qvy d (hdN d R 7 x) (Qht d R 7 (hdN d R 7 x)))
    else if !Xhv k d (hdN d R 7 x) (Qht d R 7 (hdN d R 7 x)) && decide (x = Qvy d (hdN d R 7 x) (Qht d R 7 (hdN d R 7 x))) then some (Qht d R 7 (hdN d R 7 x)) else none)
  else none
def Xjd (d : Nat) : List Nat := (List.range (2 ^ (d + 1) - 1)).map (· + 1)
def Qsy (k : BitVec 8) (d : Nat) (R : List Nat) : List (Nat × Nat) := (Xjd d).filterMap fun x => (Xk5 k d R x).map fun m => (x, m)
theorem Xbu {x : Nat} : x ∈ Xjd d ↔ 1 ≤ x ∧ x < 2 ^ (d + 1) := by
  unfold Xjd
  rw [List.mem_map]
  constructor
  · rintro ⟨a, ha, rfl⟩; have := List.mem_range.1 ha; omega
  · rintro ⟨h1, h2⟩; exact ⟨x - 1, List.mem_range.2 (by omega), by omega⟩
theorem Qy0 {k : BitVec 8} {y : Nat × Nat} : y ∈ Qsy k d R ↔ (1 ≤ y.1 ∧ y.1 < 2 ^ (d + 1)) ∧ Xk5 k d R y.1 = some y.2 := by
  unfold Qsy
  rw [List.mem_filterMap]
  constructor
  · rintro ⟨x, hx, he⟩
    obtain ⟨m, hm, rfl⟩ := Option.map_eq_some_iff.1 he
    exact ⟨Xbu.1 hx, hm⟩
  · rintro ⟨h1, h2⟩; exact ⟨y.1, Xbu.2 h1, by rw [h2]; rfl⟩
def Asc (l : List (Nat × Nat)) : Prop := l.Pairwise fun a b => a.1 < b.1
theorem Xc7 {k : BitVec 8} : Asc (Qsy k d R) := by
  unfold Asc Qsy
  rw [List.pairwise_filterMap]
  have : (Xjd d).Pairwise fun a b => a < b := by
    unfold Xjd
    rw [List.pairwise_map]
    exact List.pairwise_lt_range.imp (by omega)
  refine this.imp ?_
  intro a b hab y hy z hz
  obtain ⟨_, _, rfl⟩ := Option.map_eq_some_iff.1 hy
  obtain ⟨_, _, rfl⟩ := Option.map_eq_some_iff.1 hz
  exact hab
theorem Xd2 : ∀ {l m : List (Nat × Nat)}, Asc l → Asc m → (∀ y, y ∈ l ↔ y ∈ m) → l = m
  | [], [], _, _, _ => rfl
  | [], b :: m, _, _, h => absurd ((h b).2 (by simp)) (by simp)
  | a :: l, [], _, _, h => absurd ((h a).1 (by simp)) (by simp)
  | a :: l, b :: m, hl, hm, h => by
    have ha := List.pairwise_cons.1 hl
    have hb := List.pairwise_cons.1 hm
    have hab : a = b := by
      rcases List.mem_cons.1 ((h a).1 (by simp)) with e | e
      · exact e
      · rcases List.mem_cons.1 ((h b).2 (by simp)) with e2 | e2
        · exact e2.symm
        · have := ha.1 b e2; have := hb.1 a e; omega
    subst hab
    congr 1
    refine Xd2 ha.2 hb.2 fun y => ?_
    constructor
    · intro hy
      rcases List.mem_cons.1 ((h y).1 (by simp [hy])) with e | e
      · subst e; have := ha.1 y hy; omega
      · exact e
    · intro hy
      rcases List.mem_cons.1 ((h y).2 (by simp [hy])) with e | e
      · subst e; have := hb.1 y hy; omega
      · exact e
def Xau (k : BitVec 8) (d : Nat) (R : List Nat) (v : Nat) : List (Nat × Nat) :=
  if k = 1#8 then (if v ≠ 1 ∧ Qkf d R (v ^^^ 1) = false then [(v ^^^ 1, 0)] else [])
  else if Xae d R v then (if Qht d R 7 v = v then [] else if Xhv k d v (Qht d R 7 v) then [(v, Qht d R 7 v)] else [(v, Qvy d v (Qht d R 7 v)), (Qvy d v (Qht d R 7 v), Qht d R 7 v)])
  else []
def Qxg (k : BitVec 8) (d : Nat) (R : List Nat) (y : Nat × Nat) : Nat := if k = 1#8 then y.1 ^^^ 1 else hdN d R 7 y.1
theorem Qx5 {k : BitVec 8} {v w : Nat} (hK : 2 ^ k.toNat ≤ w ∨ True) {K : Nat} (h1 : 2 ^ K ≤ w) (h2 : v = w / 2 ^ K) (hv : 1 ≤ v) (hs : Xhv k d v w = false) : ∃ j, 1 ≤ j ∧ j < K ∧ Qvy d v w = w / 2 ^ j := by
  have hl := Qjz w K h1
  rw [← h2] at hl
  unfold Xhv at hs
  simp only [Bool.or_eq_false_iff, decide_eq_false_iff_not] at hs
  have h0 : Qvy d v w ≠ 0 := hs.2
  unfold Qvy at h0 ⊢
  unfold Xe1 at h0 ⊢
  cases hf : (Qs6 (w / 2) (Nat.log2 w - Nat.log2 v - 1)).find? (Xfd d) with
  | none => rw [hf] at h0; simp at h0
  | some c =>
    obtain ⟨j, hj, rfl⟩ := Xbj.1 (List.mem_of_find?_eq_some hf)
    refine ⟨j + 1, by omega, by omega, ?_⟩
    rw [Option.getD_some, Nat.div_div_eq_div_mul, show 2 * 2 ^ j = 2 ^ (j + 1) from by rw [Nat.pow_succ, Nat.mul_comm]]
theorem Xhe (h : Rcv d R) {k : BitVec 8} (hne : R ≠ []) {v : Nat} (hv : Qkf d R v = true) (y : Nat × Nat) : (y ∈ Qsy k d R ∧ Qxg k d R y = v) ↔ y ∈ Xau k d R v := by
  have h64 := Qhx h.1
  have hpow : 2 ^ (d + 1) = 2 * 2 ^ d := by rw [Nat.pow_succ, Nat.mul_comm]
  obtain ⟨v1, vl, v2⟩ := Qq9 h hv
  rw [Qy0]
  by_cases hk : k = 1#8
  · unfold Xk5 Qxg Xau
    rw [if_pos hk, if_pos hk, if_pos hk]
    have hroot : Qkf d R 1 = true := by
      obtain ⟨u, hu⟩ := List.exists_mem_of_ne_nil R hne
      obtain ⟨l1, l2, l3⟩ := h.leaf hu
      exact Qp0.2 ⟨u, hu, (Qix l1).2 ⟨d, by omega, by rw [Nat.add_div_left _ (Nat.two_pow_pos d), Nat.div_eq_of_lt (h.2 u hu)]⟩⟩
    constructor
    · rintro ⟨⟨⟨y1, y2⟩, hm⟩, rfl⟩
      split at hm
      · rename_i hc
        simp only [Bool.and_eq_true, Bool.not_eq_true', Bool.or_eq_true, decide_eq_true_eq] at hc
        have hy0 : y.2 = 0 := (Option.some.inj hm).symm
        have hyn : y.1 ≠ 1 := fun e => by rw [e] at hc; rw [hroot] at hc; simp at hc
        have hss := Xbp (n := y.1) (by omega)
        rw [hss]
        have hs1 : y.1 ^^^ 1 ≠ 1 := by have := Qua (n := y.1) (by omega) (by omega); omega
        rw [if_pos ⟨hs1, hc.1⟩]
        simp only [List.mem_singleton]
        cases y; simp only at *; rw [hy0]
      · cases hm
    · intro hy
      split at hy
      · rename_i hc
        simp only [List.mem_singleton] at hy
        subst hy
        simp only
        have hv2 : 2 ≤ v := by omega
        have e1 := Xla (n := v) (by omega)
        have e2 := Qua (n := v) (by omega) hv2
        have e3 := Xiy (n := v) (by omega) hv2
        refine ⟨⟨⟨by omega, ?_⟩, ?_⟩, Xbp (by omega)⟩
        · exact (Nat.log2_lt (by omega)).1 (by omega)
        · rw [if_pos]
          simp only [Bool.and_eq_true, Bool.not_eq_true', Bool.or_eq_true, decide_eq_true_eq]
          refine ⟨hc.2, .inr ?_⟩
          rw [Xed (by omega)]; exact Xga h hv hv2
      · cases hy
  · unfold Xk5 Qxg Xau
    rw [if_neg hk, if_neg hk, if_neg hk]
    constructor
    · rintro ⟨⟨⟨y1, y2⟩, hm⟩, rfl⟩
      have hl7 : Nat.log2 y.1 < 7 := by have := (Nat.log2_lt (n := y.1) (k := d + 1) (by omega)).2 y2; have := h.1; omega
      rw [if_pos (Qxh 7 y.1 y1 hl7).1]
      generalize hdN d R 7 y.1 = v at *
      generalize Qht d R 7 v = w at *
      split at hm
      · split at hm
        · cases hm
        · rename_i h1 h2
          rw [if_neg h2]
          split at hm
          · rename_i h3
            have hm' := Option.some.inj hm
            split
            · rename_i h4
              rw [if_pos h4] at hm'
              simp only [List.mem_singleton]; cases y; simp only at *; rw [h3, hm']
            · rename_i h4
              rw [if_neg h4] at hm'
              simp only [List.mem_cons, List.not_mem_nil, or_false]; left; cases y; simp only at *; rw [h3, hm']
          · split at hm
            · rename_i h3 h4
              simp only [Bool.and_eq_true, Bool.not_eq_true', decide_eq_true_eq] at h4
              rw [if_neg (by rw [h4.1]; simp)]
              simp only [List.mem_cons, List.not_mem_nil, or_false]; right
              have hm' := Option.some.inj hm
              cases y; simp only at *; rw [← h4.2, hm']
            · cases hm
      · cases hm
    · intro hy
      split at hy
      · rename_i hh
        obtain ⟨w1, w2, w3, K, w4, w5, w6⟩ := Qqz h 7 v v1 vl (by have := h.1; omega)
        generalize hw : Qht d R 7 v = w at *
        have hs : hdN d R 7 v = v := Xcj hh
        split at hy
        · cases hy
        · rename_i hne2
          split at hy
          · rename_i h4
            simp only [List.mem_singleton] at hy
            subst hy
            simp only [hs, hw, hv, if_true, if_neg hne2, h4]
            exact ⟨⟨⟨v1, v2⟩, trivial⟩, trivial⟩
          · rename_i h4
            have h4' : Xhv k d v w = false := by simpa using h4
            simp only [List.mem_cons, List.not_mem_nil, or_false] at hy
            rcases hy with rfl | rfl
            · simp only [hs, hw, hv, if_true, if_neg hne2, h4', Bool.false_eq_true, if_false]
              exact ⟨⟨⟨v1, v2⟩, trivial⟩, trivial⟩
            · obtain ⟨j, j1, j2, j3⟩ := Qx5 (k := k) (d := d) (.inr trivial) w4 w5 v1 h4'
              have hlw := Qjz w K w4
              have hKd : K ≤ 6 := by have := h.1; omega
              have hc : hdN d R 7 (Qvy d v w) = v := by
                rw [j3]
                exact Qz2 hh v1 j (K - j) 7 (by rw [show j + (K - j) = K from by omega]; exact w4) (by rw [show j + (K - j) = K from by omega]; exact w5) (fun i _ hi => (w6 i (by omega)).2) (by omega)
              have hj2 : 2 ^ j ≤ w := Nat.le_trans (Nat.pow_le_pow_right (by omega) (by omega)) w4
              have hch : Qkf d R (Qvy d v w) = true := by rw [j3]; exact (w6 j j2).1
              have hcv : Qvy d v w ≠ v := by
                rw [j3, w5]; exact Xif w4 j2
              obtain ⟨c1, _, c3⟩ := Qq9 h hch
              simp only [hc, hw, hch, if_true, if_neg hne2, if_neg hcv, h4']
              simp only [Bool.not_false, Bool.true_and, decide_true, if_true]
              exact ⟨⟨⟨c1, c3⟩, trivial⟩, trivial⟩
      · cases hy
theorem Xj8 (h : Rcv d R) {k : BitVec 8} (hne : R ≠ []) {y : Nat × Nat} (hy : y ∈ Qsy k d R) : Qkf d R (Qxg k d R y) = true := by
  have h64 := Qhx h.1
  have hpow : 2 ^ (d + 1) = 2 * 2 ^ d := by rw [Nat.pow_succ, Nat.mul_comm]
  obtain ⟨⟨y1, y2⟩, hm⟩ := Qy0.1 hy
  unfold Xk5 at hm
  unfold Qxg
  by_cases hk : k = 1#8
  · rw [if_pos hk] at hm ⊢
    split at hm
    · rename_i hc
      simp only [Bool.and_eq_true, Bool.not_eq_true', Bool.or_eq_true, decide_eq_true_eq] at hc
      have hroot : Qkf d R 1 = true := by
        obtain ⟨u, hu⟩ := List.exists_mem_of_ne_nil R hne
        obtain ⟨l1, l2, l3⟩ := h.leaf hu
        exact Qp0.2 ⟨u, hu, (Qix l1).2 ⟨d, by omega, by rw [Nat.add_div_left _ (Nat.two_pow_pos d), Nat.div_eq_of_lt (h.2 u hu)]⟩⟩
      have hyn : y.1 ≠ 1 := fun e => by rw [e] at hc; rw [hroot] at hc; simp at hc
      have hp : Qkf d R (y.1 / 2) = true := by
        rcases hc.2 with e | e
        · exact absurd e hyn
        · exact e
      have hlg := Qqx (n := y.1) (by omega)
      have hyl : Nat.log2 y.1 ≤ d := Qz5 y1 y2
      rw [Qvi h (by omega) (by omega), Bool.or_eq_true] at hp
      have hz : y.1 / 2 < 64 := by omega
      rcases (show y.1 = 2 * (y.1 / 2) ∨ y.1 = 2 * (y.1 / 2) + 1 by omega) with e | e
      · have h2 : Qkf d R (2 * (y.1 / 2)) = false := by rw [← e]; exact hc.1
        have : y.1 ^^^ 1 = 2 * (y.1 / 2) + 1 := by rw [← Xoc hz, ← e]
        rw [this]; rw [h2] at hp; simpa using hp
      · have h2 : Qkf d R (2 * (y.1 / 2) + 1) = false := by rw [← e]; exact hc.1
        have : y.1 ^^^ 1 = 2 * (y.1 / 2) := by rw [← Xo5 hz, ← e]
        rw [this]; rw [h2] at hp; simpa using hp
    · cases hm
  · rw [if_neg hk] at hm ⊢
    split at hm
    · rename_i hx
      have hl7 : Nat.log2 y.1 < 7 := by have := Qz5 y1 y2; have := h.1; omega
      obtain ⟨_, i, i1, i2, _⟩ := Qxh (d := d) (R := R) 7 y.1 y1 hl7
      rw [i2]; exact Xc1 h hx i i1
    · cases hm
end
end Go.Sx

end
section
set_option linter.unusedVariables false
set_option linter.unusedSimpArgs false
namespace Go.Sx
open Go
end Go.Sx

end
section
set_option linter.unusedVariables false
set_option linter.unusedSimpArgs false
namespace Go.Sx
open Go
theorem Xc9 {τ R : Type} (F : (τ → Option R) → τ → Option R) (I : Nat → τ → Prop) (n : Nat) (r : Option R) (hs : ∀ j s, j < n → I j s → ∃ s', I (j + 1) s' ∧ ∀ rec, F rec s = rec s') (he : ∀ s, I n s → ∀ rec, F rec s = r) :
    ∀ (m j f : Nat) (s : τ), j + m = n → m < f → I j s → Qcr F f s = r
  | m, j, 0, s, _, h, _ => by omega
  | 0, j, f + 1, s, hj, _, hi => by
    have : j = n := by omega
    subst this
    rw [Qdw, he s hi]
  | m + 1, j, f + 1, s, hj, hf, hi => by
    obtain ⟨s', h1, h2⟩ := hs j s (by omega) hi
    rw [Qdw, h2]
    exact Xc9 F I n r hs he m (j + 1) f s' (by omega) (by omega) h1
end Go.Sx

end
section
set_option linter.unusedVariables false
set_option linter.unusedSimpArgs false
namespace Go.Sx
open Go
theorem Qxj {k : BitVec 8} {d : Nat} {st u : Int} (h : d ≤ 6) : Qdm ⟨k, (d : Int), st⟩ u = some (decide (0 ≤ u ∧ u < ((2 ^ d : Nat) : Int))) := by
  unfold Qdm
  by_cases h0 : (0 : Int) ≤ u
  · rw [if_pos h0, Qy2 h, bind_some]; congr 1; apply decide_eq_decide.2; omega
  · rw [if_neg h0]; congr 1; symm; apply decide_eq_false; omega
end Go.Sx

end
section
set_option linter.unusedVariables false
set_option linter.unusedSimpArgs false
namespace Go.Sx
open Go
end Go.Sx

end
section
set_option linter.unusedVariables false
set_option linter.unusedSimpArgs false
namespace Go.Sx
open Go
section
variable {s : Qaj} {d u n m : Nat}
end
def Xaa (d : Nat) (l : List Int) : Bool := (List.range l.length).all fun j => decide (0 ≤ l.getD j 0 ∧ l.getD j 0 < ((2 ^ d : Nat) : Int)) && (decide (j = 0) || decide (l.getD (j - 1) 0 < l.getD j 0))
theorem getD_some {l : List Int} {j : Nat} (h : j < l.length) : l.getD j 0 = l[j] := by simp [List.getD, h]
theorem Xdh {σ : Type} (p : Nat → Bool) : ∀ (l : List Nat) (F : Nat → (σ → Option Bool) → σ → Option Bool) (s : σ), (∀ a ∈ l, ∀ nx s, F a nx s = bif p a then nx s else some false) → itL F (fun _ => some true) l s = some (l.all p)
  | [], F, s, _ => rfl
  | a :: l, F, s, h => by
    rw [Qrk, h a (by simp), List.all_cons]
    cases p a with
    | false => rfl
    | true => rw [cond_true, Bool.true_and]; exact Xdh p l F s (fun b hb => h b (by simp [hb]))
theorem Xim {kd : BitVec 8} {d : Nat} {st : Int} (h6 : d ≤ 6) (l : List Int) (hl : l.length < 4611686018427387904) : Qfz ⟨kd, (d : Int), st⟩ l = some (Xaa d l) := by
  unfold Qfz Xaa
  have := Xbm l.length (Qdh ⟨kd, (d : Int), st⟩ l) (fun j (_ : Unit) => (j : Int)) (fun j nx s => bif decide (0 ≤ l.getD j 0 ∧ l.getD j 0 < ((2 ^ d : Nat) : Int)) && (decide (j = 0) || decide (l.getD (j - 1) 0 < l.getD j 0)) then nx s else some false) (fun _ => some true)
    (fun rec j hj _ => by
      simp only [Qdh, Qe5]
      rw [if_pos (by omega), Qjh hj, bind_some, Qxj h6, bind_some, getD_some hj, Qo0 (by omega)]
      by_cases h : 0 ≤ l[j] ∧ l[j] < ((2 ^ d : Nat) : Int)
      · rw [decide_eq_true h]
        simp only [Bool.not_true, cond_false, Bool.true_and]
        by_cases h0 : j = 0
        · rw [if_neg (by omega), decide_eq_true h0]; rfl
        · have hj1 : j - 1 < l.length := by omega
          rw [if_pos (by omega), Qh4 (by omega) (by omega), show (j : Int) - 1 = ((j - 1 : Nat) : Int) from by omega, Qjh hj1, bind_some, decide_eq_false h0, Bool.false_or, getD_some hj1]
          by_cases h1 : l[j] ≤ l[j - 1]
          · rw [decide_eq_true h1, decide_eq_false (by omega)]; rfl
          · rw [decide_eq_false h1, decide_eq_true (by omega)]; rfl
      · rw [decide_eq_false h]; rfl)
    (fun rec _ => by simp only [Qdh]; rw [if_neg (by omega)]) (f := Qdn) (Qo3 (by omega)) ()
  rw [show ((0 : Nat) : Int) = 0 from rfl] at this
  rw [this]
  exact Xdh _ _ _ _ (fun a _ nx s => rfl)
theorem Xdt {d : Nat} {l : List Int} (h : Xaa d l = true) {a : Int} (ha : a ∈ l) : ∃ u : Nat, a = (u : Int) ∧ u < 2 ^ d := by
  obtain ⟨j, hj, rfl⟩ := List.mem_iff_getElem.1 ha
  have := List.all_eq_true.1 h j (by simpa using hj)
  rw [Bool.and_eq_true, decide_eq_true_eq, getD_some hj] at this
  exact ⟨l[j].toNat, by omega, by omega⟩
end Go.Sx

end
section
set_option linter.unusedVariables false
set_option linter.unusedSimpArgs false
set_option maxRecDepth 100000
namespace Go.Sx
open Go
def mkS (y : Nat × Nat) : Qak := ⟨(y.1 : Int), (y.2 : Int)⟩
def upF : Nat → Nat → List Int → List Int
  | 0, _, ks => ks
  | f + 1, n, ks => if n = 0 then ks else upF f (n / 2) (Qxw ks (n : Int))
theorem Xdb (a5 : Int) (rec1 : Int × List Int → Option (List Qak × Int)) : ∀ (f fuel n : Nat) (ks : List Int), n < 2 ^ f → f < fuel → Qcr (Qfk a5 rec1) fuel ((n : Int), ks) = rec1 (w64 (a5 + 1), upF f n ks)
  | f, 0, n, ks, _, h => by omega
  | 0, fuel + 1, n, ks, hn, _ => by
    rw [Qdw]; simp only [Qfk]
    rw [if_neg (by simp at hn; omega)]; rfl
  | f + 1, fuel + 1, n, ks, hn, hf => by
    rw [Qdw]; simp only [Qfk]
    unfold upF
    by_cases h0 : n = 0
    · rw [if_neg (by omega), if_pos h0]
    · rw [if_pos (by omega), if_neg h0, show shG (un 1#64) = some 1 from by decide, bind_some, Qy3 _ _ (by omega), Nat.pow_one]
      exact Xdb a5 rec1 f fuel (n / 2) _ (by rw [Nat.pow_succ] at hn; omega) (by omega)
theorem Xec {ks : List Int} {k z : Int} : z ∈ Qxw ks k ↔ z ∈ ks ∨ z = k := by
  unfold Qxw; split
  · rename_i h; exact ⟨.inl, fun h' => h'.elim id (fun e => e ▸ h)⟩
  · simp
theorem Xdw {ks : List Int} {k : Int} : (Qxw ks k).length ≤ ks.length + 1 := by unfold Qxw; split <;> simp
theorem Xgu : ∀ (f n : Nat) (ks : List Int) (z : Int), n < 2 ^ f → (z ∈ upF f n ks ↔ z ∈ ks ∨ ∃ j, 2 ^ j ≤ n ∧ z = ((n / 2 ^ j : Nat) : Int))
  | 0, n, ks, z, hn => by
    unfold upF
    constructor
    · exact .inl
    · rintro (h | ⟨j, hj, _⟩)
      · exact h
      · have := Nat.two_pow_pos j; simp at hn; omega
  | f + 1, n, ks, z, hn => by
    unfold upF
    by_cases h0 : n = 0
    · rw [if_pos h0]
      constructor
      · exact .inl
      · rintro (h | ⟨j, hj, _⟩)
        · exact h
        · have := Nat.two_pow_pos j; omega
    · rw [if_neg h0, Xgu f (n / 2) _ z (by rw [Nat.pow_succ] at hn; omega), Xec]
      have hd2 : ∀ j, n / 2 / 2 ^ j = n / 2 ^ (j + 1) := fun j => by rw [Nat.div_div_eq_div_mul, Nat.pow_succ, Nat.mul_comm 2]
      constructor
      · rintro ((h | h) | ⟨j, h1, h2⟩)
        · exact .inl h
        · exact .inr ⟨0, by simp; omega, by simpa using h⟩
        · exact .inr ⟨j + 1, by rw [Nat.pow_succ]; omega, by rw [h2, hd2]⟩
      · rintro (h | ⟨j, h1, h2⟩)
        · exact .inl (.inl h)
        · cases j with
          | zero => exact .inl (.inr (by simpa using h2))
          | succ j => exact .inr ⟨j, by rw [Nat.pow_succ] at h1; omega, by rw [h2, hd2]⟩
theorem Xfx : ∀ (f n : Nat) (ks : List Int), (upF f n ks).length ≤ ks.length + f
  | 0, n, ks => by simp [upF]
  | f + 1, n, ks => by
    unfold upF; split
    · omega
    · have := Xfx f (n / 2) (Qxw ks (n : Int)); have := Xdw (ks := ks) (k := (n : Int)); omega
def Qtg (d : Nat) (l : List Int) : List Int := l.foldl (fun ks u => upF 8 (2 ^ d + u.toNat) ks) []
theorem Qvt {d : Nat} (h6 : d ≤ 6) : ∀ (l : List Int) (ks : List Int) (z : Int), (∀ u ∈ l, u.toNat < 2 ^ d) → (z ∈ l.foldl (fun ks u => upF 8 (2 ^ d + u.toNat) ks) ks ↔ z ∈ ks ∨ ∃ u ∈ l, ∃ j, 2 ^ j ≤ 2 ^ d + u.toNat ∧ z = (((2 ^ d + u.toNat) / 2 ^ j : Nat) : Int))
  | [], ks, z, _ => by simp
  | a :: l, ks, z, h => by
    have h64 := Qhx h6
    have ha := h a (by simp)
    rw [List.foldl_cons, Qvt h6 l _ z (fun u hu => h u (by simp [hu])), Xgu 8 _ _ _ (by omega)]
    constructor
    · rintro ((h1 | h1) | ⟨u, hu, h1⟩)
      · exact .inl h1
      · exact .inr ⟨a, by simp, h1⟩
      · exact .inr ⟨u, by simp [hu], h1⟩
    · rintro (h1 | ⟨u, hu, h1⟩)
      · exact .inl (.inl h1)
      · rcases List.mem_cons.1 hu with rfl | hu
        · exact .inl (.inr h1)
        · exact .inr ⟨u, hu, h1⟩
theorem Qzh {d : Nat} : ∀ (l : List Int) (ks : List Int), (l.foldl (fun ks u => upF 8 (2 ^ d + u.toNat) ks) ks).length ≤ ks.length + 8 * l.length
  | [], ks => by simp
  | a :: l, ks => by
    rw [List.foldl_cons, List.length_cons]
    have := Qzh (d := d) l (upF 8 (2 ^ d + a.toNat) ks)
    have := Xfx 8 (2 ^ d + a.toNat) ks
    omega
def Qit (l : List Int) : List Nat := l.map Int.toNat
theorem Qw7 {d : Nat} {l : List Int} (h6 : d ≤ 6) (h : Xaa d l = true) : Rcv d (Qit l) := ⟨h6, fun u hu => by
  obtain ⟨a, ha, rfl⟩ := List.mem_map.1 hu
  obtain ⟨w, hw, hw2⟩ := Xdt h ha
  rw [hw]; simpa using hw2⟩
theorem Ql1 {d : Nat} {l : List Int} (h6 : d ≤ 6) (h : Xaa d l = true) (n : Nat) : ((n : Int) ∈ Qtg d l) ↔ Qkf d (Qit l) n = true := by
  have hr := Qw7 h6 h
  unfold Qtg
  rw [Qvt h6 l [] _ (fun u hu => hr.2 _ (List.mem_map.2 ⟨u, hu, rfl⟩)), Qp0]
  simp only [List.not_mem_nil, false_or]
  constructor
  · rintro ⟨u, hu, j, h1, h2⟩
    refine ⟨u.toNat, List.mem_map.2 ⟨u, hu, rfl⟩, (Qix (hr.leaf (List.mem_map.2 ⟨u, hu, rfl⟩)).1).2 ⟨j, h1, by omega⟩⟩
  · rintro ⟨u, hu, hb⟩
    obtain ⟨a, ha, rfl⟩ := List.mem_map.1 hu
    obtain ⟨j, h1, h2⟩ := (Qix (hr.leaf hu).1).1 hb
    exact ⟨a, ha, j, h1, by rw [h2]⟩
theorem Xen {d : Nat} {l : List Int} (h6 : d ≤ 6) (h : Xaa d l = true) {k : Int} (hk : k ∈ Qtg d l) : ∃ n : Nat, k = (n : Int) ∧ Qkf d (Qit l) n = true := by
  have hr := Qw7 h6 h
  unfold Qtg at hk
  rw [Qvt h6 l [] _ (fun u hu => hr.2 _ (List.mem_map.2 ⟨u, hu, rfl⟩))] at hk
  simp only [List.not_mem_nil, false_or] at hk
  obtain ⟨u, hu, j, h1, h2⟩ := hk
  exact ⟨_, h2, Qp0.2 ⟨u.toNat, List.mem_map.2 ⟨u, hu, rfl⟩, (Qix (hr.leaf (List.mem_map.2 ⟨u, hu, rfl⟩)).1).2 ⟨j, h1, rfl⟩⟩⟩
theorem Qxl {d : Nat} {l : List Int} (h6 : d ≤ 6) (h : Xaa d l = true) (n : Nat) : decide ((n : Int) ∈ Qtg d l) = Qkf d (Qit l) n := by
  cases hb : Qkf d (Qit l) n with
  | true => exact decide_eq_true ((Ql1 h6 h n).2 hb)
  | false => exact decide_eq_false fun hm => by rw [(Ql1 h6 h n).1 hm] at hb; cases hb
theorem Qxa {s : Qaj} {d : Nat} {l : List Int} (h6 : d ≤ 6) (h : Xaa d l = true) (acc : List Qak) (nx : List Qak → Option (List Qak × Int)) (k : Int) : ∀ (f fuel v : Nat), 1 ≤ v → Nat.log2 v ≤ d → d - Nat.log2 v < f → f ≤ fuel →
    Qcr (Qdu (Qkc s, 0) (Qtg d l) acc nx k) fuel (v : Int) = (if (Qht d (Qit l) f v : Int) = k then nx acc else Option.bind (Qep (Qkc s) k (Qht d (Qit l) f v : Int)) fun x31 => (if x31 ≠ 0 then (if (Qkc s).kind = 3#8 then Option.bind (Qcw (Qkc s) k) fun x34 => (Qd1 acc nx k (Qht d (Qit l) f v : Int) x31 (!x34)) else Qd1 acc nx k (Qht d (Qit l) f v : Int) x31 false) else Qd1 acc nx k (Qht d (Qit l) f v : Int) x31 false))
  | 0, fuel, v, _, _, hf, _ => by omega
  | f + 1, 0, v, _, _, _, hf => by omega
  | f + 1, fuel + 1, v, hv, hl, hf, hff => by
    have hr := Qw7 h6 h
    have h64 := Qhx h6
    have hv128 : v < 128 := by
      have := (Nat.log2_lt (n := v) (k := d + 1) (by omega)).1 (by omega)
      rw [Nat.pow_succ] at this; omega
    rw [Qdw]; simp only [Qdu]
    have e0 : w64 (2 * (v : Int)) = ((2 * v : Nat) : Int) := by rw [Qh4 (by omega) (by omega)]; omega
    have e1 : w64 (((2 * v : Nat) : Int) + 1) = ((2 * v + 1 : Nat) : Int) := by rw [Qh4 (by omega) (by omega)]; omega
    have e2 : w64 ((v : Int) * 2) = ((2 * v : Nat) : Int) := by rw [Qh4 (by omega) (by omega)]; omega
    rw [e0, e1, e2, e1, Qxl h6 h, Qxl h6 h]
    rw [show (Qkf d (Qit l) (2 * v) != Qkf d (Qit l) (2 * v + 1)) = brN d (Qit l) v from rfl]
    cases hb : brN d (Qit l) v with
    | false =>
      have hfv : Qht d (Qit l) (f + 1) v = v := by unfold Qht; rw [hb]; rfl
      rw [cond_false, hfv]
    | true =>
      have hfv : Qht d (Qit l) (f + 1) v = Qht d (Qit l) f (nxN d (Qit l) v) := by
        show (if brN d (Qit l) v = true then Qht d (Qit l) f (nxN d (Qit l) v) else v) = _
        rw [hb]; rfl
      rw [cond_true, hfv]
      obtain ⟨hl2, _⟩ := Qz8 hr hv hb
      have key : (if ¬ (((2 * v : Nat) : Int) ∈ Qtg d l) then Qcr (Qdu (Qkc s, 0) (Qtg d l) acc nx k) fuel ((2 * v + 1 : Nat) : Int) else Qcr (Qdu (Qkc s, 0) (Qtg d l) acc nx k) fuel ((2 * v : Nat) : Int)) = Qcr (Qdu (Qkc s, 0) (Qtg d l) acc nx k) fuel (nxN d (Qit l) v : Int) := by
        unfold nxN
        cases hh : Qkf d (Qit l) (2 * v) with
        | true => rw [if_neg (fun hn => hn ((Ql1 h6 h _).2 hh)), if_pos rfl]
        | false => rw [if_pos (fun hm => by rw [(Ql1 h6 h _).1 hm] at hh; cases hh), if_neg (by simp)]
      rw [key]
      have hn : 1 ≤ nxN d (Qit l) v ∧ Nat.log2 (nxN d (Qit l) v) = Nat.log2 v + 1 := by
        unfold nxN; split
        · exact ⟨by omega, Qpq hv (b := 0) (by omega)⟩
        · exact ⟨by omega, Qpq hv (b := 1) (by omega)⟩
      exact Qxa h6 h acc nx k f fuel _ hn.1 (by omega) (by omega) (by omega)
theorem Xfp {s : Qaj} {d : Nat} {l : List Int} (hv : Qzd s = true) (hd : s.Depth = (d : Int)) (h6 : d ≤ 6) (h : Xaa d l = true) {v : Nat} (hh : Qkf d (Qit l) v = true) (acc : List Qak) (ha : acc.length ≤ 1000) (nx : List Qak → Option (List Qak × Int)) :
    Qek (Qkc s, 0) (Qtg d l) (v : Int) nx acc = nx (acc ++ (Xau s.Kind d (Qit l) v).map mkS) := by
  have hr := Qw7 h6 h
  have h64 := Qhx h6
  obtain ⟨v1, vl, v2⟩ := Qq9 hr hh
  have hpow : 2 ^ (d + 1) = 2 * 2 ^ d := by rw [Nat.pow_succ, Nat.mul_comm]
  have hv128 : v < 128 := by omega
  have ht : Qkc s = ⟨s.Kind, (d : Int), (Xdd d : Int)⟩ := by unfold Qkc; rw [hd, Int.toNat_natCast]
  have hkd : (Qkc s).kind = s.Kind := rfl
  have hsib : Qd6 (v : Int) = some ((v ^^^ 1 : Nat) : Int) := by unfold Qd6; rw [Xhl hv128]
  have hadd : ∀ (a b : Int) (acc : List Qak), acc.length ≤ 2000 → Qg9 a b acc = some (acc ++ [⟨a, b⟩]) := fun a b acc hl => by
    unfold Qg9; rw [Qgn (by simp; omega), bind_some]
  unfold Qek
  simp only [hkd]
  by_cases hk : s.Kind = 1#8
  · rw [if_pos hk]
    unfold Xau
    rw [if_pos hk]
    by_cases hv1 : v = 1
    · rw [if_neg (by omega), if_neg (by simp [hv1])]
      unfold Qgx; simp
    · rw [if_pos (by omega), hsib, bind_some]
      unfold Qgx
      have hdm := Qxl h6 h (v ^^^ 1)
      by_cases hs : Qkf d (Qit l) (v ^^^ 1) = true
      · rw [decide_eq_false (p := ¬ (((v ^^^ 1 : Nat) : Int) ∈ Qtg d l)) (fun hn => hn ((Ql1 h6 h _).2 hs)), cond_false, if_neg (by simp [hs])]; simp
      · have hs' : Qkf d (Qit l) (v ^^^ 1) = false := by simpa using hs
        rw [decide_eq_true (p := ¬ (((v ^^^ 1 : Nat) : Int) ∈ Qtg d l)) (fun hm => hs ((Ql1 h6 h _).1 hm)), cond_true, hsib, bind_some, hadd _ _ _ (by omega), bind_some, if_pos ⟨hv1, hs'⟩]
        rfl
  · rw [if_neg hk]
    have go : Xae d (Qit l) v = true → Qem (Qkc s, 0) (Qtg d l) acc nx (v : Int) false = nx (acc ++ (Xau s.Kind d (Qit l) v).map mkS) := by
      intro hhd
      unfold Qem
      rw [cond_false, Qxa h6 h acc nx (v : Int) 7 Qdn v v1 vl (by omega) (by unfold Qdn; omega)]
      unfold Xau
      rw [if_neg hk, if_pos hhd]
      obtain ⟨w1, w2, w3, K, w4, w5, w6⟩ := Qqz hr 7 v v1 vl (by omega)
      generalize Qht d (Qit l) 7 v = w at *
      by_cases hw : w = v
      · rw [if_pos (by omega), if_pos hw]; simp
      · rw [if_neg (by omega), if_neg hw]
        have hlw := Qjz w K w4
        rw [← w5] at hlw
        have hK : 1 ≤ K := by
          rcases Nat.eq_zero_or_pos K with h0 | h0
          · subst h0; simp at w5; exact absurd w5.symm hw
          · exact h0
        have hw128 : w < 128 := by
          have := (Nat.log2_lt (n := w) (k := d + 1) (by omega)).1 (by omega)
          omega
        have hcut : Qep (Qkc s) (v : Int) (w : Int) = some ((Qvy d v w : Nat) : Int) := by
          obtain ⟨K', rfl⟩ : ∃ K', K = K' + 1 := ⟨K - 1, by omega⟩
          have := Xll (kd := s.Kind) (d := d) (m := w) (k := K') hw128 w4 (by omega)
          rw [← w5] at this
          rw [ht, this]
          unfold Qvy
          rw [show Nat.log2 w - Nat.log2 v - 1 = K' from by omega]
        have hspc : Qcw (Qkc s) (v : Int) = some (Xfd d v) := by rw [ht]; exact Qul v1 (by omega)
        rw [hcut, bind_some]
        have one : Qd1 acc nx (v : Int) (w : Int) ((Qvy d v w : Nat) : Int) false = nx (acc ++ [(v, w)].map mkS) := by
          unfold Qd1 Qgs
          rw [cond_false, hadd _ _ _ (by omega), bind_some]; rfl
        have two : Qd1 acc nx (v : Int) (w : Int) ((Qvy d v w : Nat) : Int) true = nx (acc ++ [(v, Qvy d v w), (Qvy d v w, w)].map mkS) := by
          unfold Qd1 Qgs
          rw [cond_true, hadd _ _ _ (by omega), bind_some, hadd _ _ _ (by simp; omega), bind_some, List.append_assoc]; rfl
        have hk3 : s.Kind = 2#8 ∨ s.Kind = 3#8 := by
          obtain ⟨a, b⟩ := Xex hv
          rcases Xad a b with e | e | e
          · exact absurd e hk
          · exact .inl e
          · exact .inr e
        unfold Xhv
        by_cases hc0 : Qvy d v w = 0
        · rw [if_neg (by omega), one]
          have : (decide (s.Kind = 2#8) || Xfd d v || decide (Xe1 d (Qs6 (w / 2) (Nat.log2 w - Nat.log2 v - 1)) = 0)) = true := by
            rw [decide_eq_true (p := Xe1 _ _ = 0) hc0]; simp
          rw [if_pos this]
        · have hc0' : decide (Xe1 d (Qs6 (w / 2) (Nat.log2 w - Nat.log2 v - 1)) = 0) = false := decide_eq_false hc0
          rw [if_pos (by omega), hc0', Bool.or_false]
          rcases hk3 with hk3 | hk3
          · rw [if_neg (by rw [hkd, hk3]; decide), one, if_pos (by simp [hk3])]
          · rw [if_pos (show (Qkc s).kind = 3#8 from hk3), hspc, bind_some]
            have : decide (s.Kind = 2#8) = false := by rw [hk3]; decide
            rw [this, Bool.false_or]
            cases Xfd d v with
            | true => rw [Bool.not_true, one, if_pos rfl]
            | false => rw [Bool.not_false, two, if_neg (by simp)]
    have no : Xae d (Qit l) v = false → Qem (Qkc s, 0) (Qtg d l) acc nx (v : Int) true = nx (acc ++ (Xau s.Kind d (Qit l) v).map mkS) := by
      intro hhd
      unfold Qem Xau
      rw [cond_true, if_neg hk, if_neg (by rw [hhd]; simp)]; simp
    by_cases hv1 : v = 1
    · rw [if_neg (by omega)]; exact go (by unfold Xae; simp [hv1])
    · rw [if_pos (by omega), hsib, bind_some]
      by_cases hs : Qkf d (Qit l) (v ^^^ 1) = true
      · rw [decide_eq_false (p := ¬ (((v ^^^ 1 : Nat) : Int) ∈ Qtg d l)) (fun hn => hn ((Ql1 h6 h _).2 hs))]; exact go (by unfold Xae; simp [hs])
      · have hs' : Qkf d (Qit l) (v ^^^ 1) = false := by simpa using hs
        rw [decide_eq_true (p := ¬ (((v ^^^ 1 : Nat) : Int) ∈ Qtg d l)) (fun hm => hs ((Ql1 h6 h _).1 hm))]; exact no (by unfold Xae; simp [hs', hv1])
theorem Xaq {d : Nat} {R : List Nat} (h : Rcv d R) {k : BitVec 8} (hne : R ≠ []) {v : Nat} (hv : Qkf d R v = true) : (Qsy k d R).filter (fun y => decide (Qxg k d R y = v)) = Xau k d R v := by
  refine Xd2 ?_ ?_ fun y => ?_
  · exact List.Pairwise.filter _ Xc7
  · unfold Xau Asc
    split
    · split <;> simp
    · split
      · split
        · simp
        · split
          · simp
          · rename_i h2 h3 h4 h5
            obtain ⟨v1, vl, v2⟩ := Qq9 h hv
            obtain ⟨w1, w2, w3, K, w4, w5, w6⟩ := Qqz h 7 v v1 vl (by have := h.1; omega)
            obtain ⟨j, j1, j2, j3⟩ := Qx5 (k := k) (d := d) (.inr trivial) w4 w5 v1 (by simpa using h5)
            simp only [List.pairwise_cons, List.mem_singleton, List.not_mem_nil, false_imp_iff, implies_true, List.Pairwise.nil, and_true, forall_eq]
            have hj2 : 2 ^ j ≤ Qht d R 7 v := Nat.le_trans (Nat.pow_le_pow_right (by omega) (by omega)) w4
            have hl1 := Qjz _ _ w4
            have hl2 := Qjz _ _ hj2
            rw [← w5] at hl1
            rw [← j3] at hl2
            rcases Nat.lt_or_ge v (Qvy d v (Qht d R 7 v)) with hlt | hge
            · exact hlt
            · have := Xbx hge; omega
      · simp
  · rw [List.mem_filter, decide_eq_true_eq]; exact Xhe h hne hv y
theorem Xch {k : BitVec 8} {d : Nat} {R : List Nat} (h6 : d ≤ 6) : (Qsy k d R).length ≤ 127 := by
  have h64 := Qhx h6
  have hpow : 2 ^ (d + 1) = 2 * 2 ^ d := by rw [Nat.pow_succ, Nat.mul_comm]
  refine Nat.le_trans (List.length_filterMap_le _ _) ?_
  simp [Xjd]; omega
theorem Qwd {α : Type} (p q : α → Bool) (hpq : ∀ a, p a = true → q a = false) (l : List α) : (l.filter fun a => p a || q a).Perm (l.filter p ++ l.filter q) := by
  induction l with
  | nil => simp
  | cons a l ih =>
    cases hp : p a with
    | true =>
      have hq := hpq a hp
      simp only [List.filter_cons, hp, hq, Bool.true_or, if_true, Bool.false_eq_true, if_false, List.cons_append]
      exact ih.cons a
    | false =>
      cases hq : q a with
      | true =>
        simp only [List.filter_cons, hp, hq, Bool.or_true, if_true, Bool.false_eq_true, if_false]
        exact (ih.cons a).trans List.perm_middle.symm
      | false =>
        simp only [List.filter_cons, hp, hq, Bool.or_false, Bool.false_eq_true, if_false]
        exact ih
theorem Xhj {k : BitVec 8} {d : Nat} {R : List Nat} (h6 : d ≤ 6) {acc : List Qak} (h : acc.Perm ((Qsy k d R).map mkS)) : Qya Qak.Node acc = some ((Qsy k d R).map mkS) := by
  have h64 := Qhx h6
  have hpow : 2 ^ (d + 1) = 2 * 2 ^ d := by rw [Nat.pow_succ, Nat.mul_comm]
  have hasc : ((Qsy k d R).map mkS).Pairwise fun a b => a.Node < b.Node := by
    rw [List.pairwise_map]
    exact (Xc7 (k := k) (d := d) (R := R)).imp (fun {a b} hab => by unfold mkS; simp only; omega)
  have hnd : (((Qsy k d R).map mkS).map Qak.Node).Nodup := by
    unfold List.Nodup
    rw [List.pairwise_map]
    exact hasc.imp (by omega)
  unfold Qya
  rw [if_pos]
  · congr 1
    have hs := List.pairwise_mergeSort (le := fun a b : Qak => decide (a.Node ≤ b.Node)) (fun a b c h1 h2 => by simp at *; omega) (fun a b => by simp; omega) acc
    have hp : (acc.mergeSort fun a b => decide (a.Node ≤ b.Node)).Perm ((Qsy k d R).map mkS) := (List.mergeSort_perm acc _).trans h
    have key : ∀ (l m : List Qak), l.Perm m → (l.Pairwise fun a b => decide (a.Node ≤ b.Node) = true) → (m.Pairwise fun a b => a.Node < b.Node) → l = m := by
      intro l m hlm hl hm
      have hlnd : (l.map Qak.Node).Nodup := by
        have : (m.map Qak.Node).Nodup := by unfold List.Nodup; rw [List.pairwise_map]; exact hm.imp (by omega)
        exact (hlm.map _).nodup_iff.2 this
      have hl' : l.Pairwise fun a b => a.Node < b.Node := by
        unfold List.Nodup at hlnd
        rw [List.pairwise_map] at hlnd
        exact (hl.and hlnd).imp (fun {a b} hab => by have := of_decide_eq_true hab.1; have := hab.2; omega)
      clear hl hlnd
      induction m generalizing l with
      | nil => exact hlm.eq_nil
      | cons b m ih =>
        cases l with
        | nil => exact absurd hlm.symm.eq_nil (by simp)
        | cons a l =>
          have ha := List.pairwise_cons.1 hl'
          have hb := List.pairwise_cons.1 hm
          have hab : a = b := by
            rcases List.mem_cons.1 (hlm.subset (List.mem_cons_self)) with e | e
            · exact e
            · rcases List.mem_cons.1 (hlm.symm.subset (List.mem_cons_self)) with e2 | e2
              · exact e2.symm
              · have := ha.1 b e2; have := hb.1 a e; omega
          subst hab
          rw [ih l (List.Perm.cons_inv hlm) hb.2 ha.2]
    exact key _ _ hp hs hasc
  · refine ⟨fun x hx => ?_, (h.map _).nodup_iff.2 hnd, ?_⟩
    · obtain ⟨y, hy, rfl⟩ := List.mem_map.1 (h.subset hx)
      have := (Qy0.1 hy).1
      unfold mkS; simp only; omega
    · rw [h.length_eq, List.length_map]; have := Xch (k := k) (R := R) h6; omega
theorem Xck {s : Qaj} {d : Nat} {l : List Int} (hv : Qzd s = true) (hd : s.Depth = (d : Int)) (h6 : d ≤ 6) (h : Xaa d l = true) (hne : l ≠ []) (hl : l.length * 8 ≤ 140737488355328) :
    Qxt (Qek (Qkc s, 0) (Qtg d l)) Qfh Qdn (Qtg d l) [] = some ((Qsy s.Kind d (Qit l)).map mkS, 0) := by
  have hr := Qw7 h6 h
  have hne' : Qit l ≠ [] := by unfold Qit; simpa using hne
  refine Qzz (fun rem acc => (∀ k ∈ rem, k ∈ Qtg d l) ∧ acc.Perm (((Qsy s.Kind d (Qit l)).filter fun y => decide (((Qxg s.Kind d (Qit l) y : Nat) : Int) ∉ rem)).map mkS)) ?_ ?_ Qdn (Qtg d l) [] ?_ ⟨fun _ hk => hk, ?_⟩
  · rintro acc ⟨_, hp⟩
    have : ((Qsy s.Kind d (Qit l)).filter fun y => decide (((Qxg s.Kind d (Qit l) y : Nat) : Int) ∉ ([] : List Int))) = Qsy s.Kind d (Qit l) := List.filter_eq_self.2 (by simp)
    rw [this] at hp
    unfold Qfh
    rw [Xhj h6 hp, bind_some]
  · rintro rem acc k hk ⟨hsub, hp⟩
    obtain ⟨v, rfl, hvh⟩ := Xen h6 h (hsub k hk)
    have hal : acc.length ≤ 1000 := by
      rw [hp.length_eq, List.length_map]
      have := Xch (k := s.Kind) (R := Qit l) h6
      have := List.length_filter_le (fun y => decide (((Qxg s.Kind d (Qit l) y : Nat) : Int) ∉ rem)) (Qsy s.Kind d (Qit l))
      omega
    refine ⟨acc ++ (Xau s.Kind d (Qit l) v).map mkS, ⟨fun j hj => hsub j (List.mem_filter.1 hj).1, ?_⟩, fun nx => Xfp hv hd h6 h hvh acc hal nx⟩
    have hsp := Qwd (fun y => decide (((Qxg s.Kind d (Qit l) y : Nat) : Int) ∉ rem)) (fun y => decide (Qxg s.Kind d (Qit l) y = v)) (fun y hy => by
      simp only [decide_eq_true_eq, decide_eq_false_iff_not] at hy ⊢
      rintro rfl; exact hy hk) (Qsy s.Kind d (Qit l))
    rw [Xaq hr hne' hvh] at hsp
    have hcg : ((Qsy s.Kind d (Qit l)).filter fun y => decide (((Qxg s.Kind d (Qit l) y : Nat) : Int) ∉ rem.filter (· ≠ (v : Int)))) = ((Qsy s.Kind d (Qit l)).filter fun y => decide (((Qxg s.Kind d (Qit l) y : Nat) : Int) ∉ rem) || decide (Qxg s.Kind d (Qit l) y = v)) := by
      apply List.filter_congr
      intro y _
      rw [Bool.eq_iff_iff]
      simp only [Bool.or_eq_true, decide_eq_true_eq, List.mem_filter, not_and, ne_eq, Decidable.not_not, decide_not, Bool.not_eq_true', decide_eq_false_iff_not]
      constructor
      · intro hh
        by_cases hm : ((Qxg s.Kind d (Qit l) y : Nat) : Int) ∈ rem
        · have := hh hm; right; omega
        · exact .inl hm
      · rintro (hh | hh) hm
        · exact absurd hm hh
        · rw [hh]
    rw [hcg]
    refine List.Perm.trans ?_ (hsp.map mkS).symm
    rw [List.map_append]
    exact hp.append_right _
  · have := Qzh (d := d) l []
    unfold Qtg Qdn
    simp only [List.length_nil, Nat.zero_add] at this
    omega
  · have : ((Qsy s.Kind d (Qit l)).filter fun y => decide (((Qxg s.Kind d (Qit l) y : Nat) : Int) ∉ Qtg d l)) = [] := by
      rw [List.filter_eq_nil_iff]
      intro y hy
      simp only [decide_eq_true_eq]
      exact fun hn => hn ((Ql1 h6 h _).2 (Xj8 hr hne' hy))
    rw [this]; simp
def Xn4 (s : Qaj) (l : List Int) : List Qak × Int :=
  if Qzd s then (if Xaa s.Depth.toNat l then ((if l = [] then [⟨1, 0⟩] else (Qsy s.Kind s.Depth.toNat (Qit l)).map mkS), 0) else ([], 2)) else ([], 30)
theorem Xbb (s : Qaj) (l : List Int) (hl : l.length * 8 ≤ 140737488355328) : Qjw s l = some (Xn4 s l) := by
  unfold Qjw Xn4
  rw [Xjz, bind_some]
  cases hv : Qzd s with
  | false => rfl
  | true =>
    obtain ⟨d, hd, h6⟩ := Qwz hv
    have ht : Qkc s = ⟨s.Kind, (d : Int), (Xdd d : Int)⟩ := by unfold Qkc; rw [hd, Int.toNat_natCast]
    simp only [if_true]
    rw [if_neg (by simp), hd, Int.toNat_natCast]
    have e0 : Qfz (Qkc s) l = some (Xaa d l) := by rw [ht]; exact Xim h6 l (by omega)
    rw [e0, bind_some]
    cases hb : Xaa d l with
    | false => rfl
    | true =>
      simp only [Bool.not_true, cond_false, if_true]
      by_cases hne : l = []
      · subst hne; rfl
      · rw [if_neg (by intro h0; apply hne; exact List.eq_nil_of_length_eq_zero (by omega)), if_neg hne]
        have := Xb8 l (Qfm l (Qkc s, 0)) (fun j (ks : List Int) => ((j : Int), ks)) (fun u nx ks => nx (upF 8 (2 ^ d + u.toNat) ks)) (fun ks => Qxt (Qek (Qkc s, 0) ks) Qfh Qdn ks [])
          (fun rec j hj ks => by
            obtain ⟨u, hu, hu2⟩ := Xdt hb (List.getElem_mem hj)
            have h64 := Qhx h6
            simp only [Qfm]
            have hlf : Qez (Qkc s) (u : Int) = some ((2 ^ d + u : Nat) : Int) := by rw [ht]; exact Xi6 h6 (by omega)
            rw [if_pos (by omega), Qjh hj, bind_some, hu, hlf, bind_some, Xdb _ _ 8 Qdn _ _ (by omega) (by unfold Qdn; omega), Qo0 (by omega), Int.toNat_natCast])
          (fun rec ks => by simp only [Qfm]; rw [if_neg (by omega)]) (f := Qdn) (Qo3 (by omega)) ([] : List Int)
        rw [show ((0 : Nat) : Int) = 0 from rfl] at this
        rw [this, Qyq (fun ks u => upF 8 (2 ^ d + u.toNat) ks) _ _ (fun _ _ => True) l 0 [] (fun _ _ _ _ _ _ => rfl) (fun _ _ _ _ _ => trivial) trivial]
        exact Xck hv hd h6 hb hne hl
end Go.Sx

end
section
set_option linter.unusedVariables false
set_option linter.unusedSimpArgs false
set_option maxRecDepth 100000
namespace Go.Sx
open Go
theorem Xjr : Xn4 ⟨2#8, 2, 0, ⟨0#64, 0#64, 0#64⟩⟩ [2] = ([⟨1, 6⟩], 0) := by decide +kernel
theorem Xom : Qjw ⟨2#8, 2, 0, ⟨0#64, 0#64, 0#64⟩⟩ [2] = some ([⟨1, 6⟩], 0) := (Xbb _ _ (by decide)).trans (congrArg some Xjr)
noncomputable def Xlg : W2 := drv (72623842526232576#64, 0#64) (un8 50#8) (wd 0)
noncomputable def Xma : Qa8 := match Qnd (72623842526232576#64, 0#64) ⟨2#8, 2, 0, ⟨0#64, 0#64, 0#64⟩⟩ [⟨1, 6⟩] Xlg with
  | some x => x.1
  | none => default
noncomputable def pk5 : Qa4 := match Qjf Xlg (Qa4.mk 1#8 0 Xma 0#8 0#64 [] k0) with
  | some m => Qa4.mk 1#8 0 Xma 0#8 0#64 [] m
  | none => default
theorem Xih : Option.bind (Qnd (72623842526232576#64, 0#64) ⟨2#8, 2, 0, ⟨0#64, 0#64, 0#64⟩⟩ [⟨1, 6⟩] Xlg) (fun x2 => some (x2.1, x2.2)) = some (Xma, 0) := by kernel_rfl
theorem Xof : Qhq (72623842526232576#64, 0#64) ⟨2#8, 2, 0, ⟨0#64, 0#64, 0#64⟩⟩ [2] Xlg (wd 0) = some (Xma, 0) := by
  unfold Qhq
  rw [Xom, bind_some, if_neg (by decide)]
  exact Xih
theorem ck5 : Qh8 ⟨2#8, 2, 0, ⟨0#64, 0#64, 0#64⟩⟩ = some 0 := by kernel_rfl
theorem Xna : Qdb 0 = some true := by kernel_rfl
theorem Xmz : Qnb (72623842526232576#64, 0#64) ⟨2#8, 2, 0, ⟨0#64, 0#64, 0#64⟩⟩ 0 [2] = some (Xma, 0) := by
  unfold Qnb
  rw [if_neg (by decide), show decide ((5 : Int) ≤ un8 (2#8)) = false from by decide]
  unfold Qiz Qge
  rw [cond_false, if_pos (by decide), ck5, bind_some, if_neg (by decide), Xna, bind_some, Bool.not_true, cond_false, bind_some]
  show Option.bind (Qhq _ _ _ Xlg _) _ = _
  rw [Xof, bind_some]
theorem Xmq : Qnj (72623842526232576#64, 0#64) ⟨2#8, 2, 0, ⟨0#64, 0#64, 0#64⟩⟩ 0 [2] = some (pk5, 0) := by
  unfold Qnj
  rw [Xmz, bind_some, if_neg (by decide)]
  kernel_rfl
theorem Xf1 : Qk5 0 pk5 = some true := by kernel_rfl
theorem Xdx : Qcg false = some true := by
  unfold Qcg Qgw
  rw [cond_false, bind_some, Xmq, bind_some]
  exact Xf1
theorem Xlx : Qm0 = some true := by
  have h1 : Qm0 = Qcg false := by kernel_rfl
  rw [h1, Xdx]
end Go.Sx

end
section
set_option linter.unusedVariables false
set_option linter.unusedSimpArgs false
set_option maxRecDepth 100000
namespace Go.Sx.Ep
open Go Go.Sx
theorem goE {τ R : Type} (F : (τ → Option R) → τ → Option R) (I : Nat → τ → Prop) (n : Nat) (r : Option R) (hn : n < 9223372036854775808) {s : τ} (h0 : I 0 s) (hs : ∀ j s, j < n → I j s → ∃ s', I (j + 1) s' ∧ ∀ rec, F rec s = rec s') (he : ∀ s, I n s → ∀ rec, F rec s = r) : Qcr F Qdn s = r :=
  Xc9 F I n r hs he n 0 Qdn s (by omega) (Qo3 hn) h0
def be (x : BitVec 64) : Nat → List (BitVec 8)
  | 0 => []
  | k + 1 => ((x >>> (8 * k)).setWidth 8) :: be x k
theorem Qim (x : BitVec 64) : ∀ k, (be x k).length = k
  | 0 => rfl
  | k + 1 => by simp [be, Qim x k]
theorem Qzu (x : BitVec 64) : ∀ (k fuel : Nat) (out : List (BitVec 8)), k < fuel → k ≤ 1000 → out.length + k ≤ 1000000 → Qcr (Qd8 x) fuel ((k : Int) - 1, out) = some ⟨out ++ be x k⟩
  | k, 0, _, hf, _, _ => by omega
  | 0, fuel + 1, out, _, _, _ => by
    rw [Qdw]; simp only [Qd8]; rw [if_neg (by omega)]; simp [be]
  | k + 1, fuel + 1, out, hf, hk, hl => by
    rw [Qdw]; simp only [Qd8]
    have e1 : shG (w64 (8 * (((k + 1 : Nat) : Int) - 1))) = some (8 * k) := by
      rw [Qh4 (by omega) (by omega)]; unfold shG; rw [if_pos (by omega)]; congr 1; omega
    rw [if_pos (by omega), e1, bind_some, Qgn (by simp; omega), bind_some, Qh4 (by omega) (by omega)]
    have e2 : ((k + 1 : Nat) : Int) - 1 - 1 = (k : Int) - 1 := by omega
    rw [e2, Qzu x k fuel _ (by omega) (by omega) (by simp; omega)]
    simp [be]
theorem Qo8 (w : Qax) (x : BitVec 64) (k : Nat) {kk : Int} (hkk : kk = (k : Int)) (hk : k ≤ 1000) (hl : w.out.length + k ≤ 1000000) : Qbs w x kk = some ⟨w.out ++ be x k⟩ := by
  subst hkk; unfold Qbs
  rw [Qh4 (by omega) (by omega)]
  exact Qzu x k Qdn _ (Qo3 (by omega)) hk hl
theorem be1 (x : BitVec 64) : be x 1 = [x.setWidth 8] := by simp [be]
theorem Xko (x : BitVec 8) : be (x.setWidth 64) 1 = [x] := by
  rw [be1]; congr 1
  apply BitVec.eq_of_toNat_eq
  rw [BitVec.toNat_setWidth, BitVec.toNat_setWidth]; have := x.isLt; omega
theorem Qzt (n : Int) : be (wd n) 1 = [wd8 n] := by
  rw [be1]; congr 1
  apply BitVec.eq_of_toNat_eq
  unfold wd wd8
  rw [BitVec.toNat_setWidth, BitVec.toNat_ofInt, BitVec.toNat_ofInt]; omega
def OkI (x : Qbd) : Prop := (0 ≤ x.Subset.Node ∧ x.Subset.Node ≤ 127) ∧ 0 ≤ x.Subset.Minus ∧ x.Subset.Minus ≤ 127
instance (x : Qbd) : Decidable (OkI x) := by unfold OkI; infer_instance
def Qxy (h : Qa8) : Prop := h.Items = [] ∧ h.Points = [] ∧ h.Base = 0#64 ∧ h.Box = k0 ∧ h.Check = k0
instance (h : Qa8) : Decidable (Qxy h) := by unfold Qxy; infer_instance
def Xcr (p : Qa4) : Prop := (0 ≤ p.Epoch ∧ p.Epoch ≤ 1099511627776) ∧ p.Low = 0#8 ∧ p.Number = 0#64 ∧ p.Data = [] ∧ p.Head.Items.length ≤ 64 ∧ p.Head.Points.length ≤ 8 ∧ ∀ x ∈ p.Head.Items, OkI x
instance (p : Qa4) : Decidable (Xcr p) := by unfold Xcr; infer_instance
def Xct (p : Qa4) : Prop := p.Epoch = 0 ∧ p.Low < 4#8 ∧ p.Data.length ≤ 256 ∧ Qxy p.Head
instance (p : Qa4) : Decidable (Xct p) := by unfold Xct; infer_instance
def VP (p : Qa4) : Prop := (p.Kind = 1#8 ∧ Xcr p) ∨ (p.Kind = 2#8 ∧ Xct p)
instance (p : Qa4) : Decidable (VP p) := by unfold VP; infer_instance
theorem ixf (l : List Qbd) (hl : l.length < 4611686018427387904) : ∀ (m i fuel : Nat), l.length - i = m → i ≤ l.length → m < fuel → ∃ r, Qcr (Qb4 l) fuel (i : Int) = some r ∧ (0 ≤ r ↔ ¬ ∀ x ∈ l.drop i, OkI x)
  | m, i, 0, _, _, hf => by omega
  | 0, i, fuel + 1, hm, hi, hf => by
    rw [Qdw]; simp only [Qb4]
    rw [if_neg (by omega), List.drop_eq_nil_of_le (by omega)]
    exact ⟨_, rfl, by simp⟩
  | m + 1, i, fuel + 1, hm, hi, hf => by
    have hil : i < l.length := by omega
    rw [Qdw]; simp only [Qb4]
    have e : Qey l[i] = some (decide (¬ OkI l[i])) := by
      have h1 : mnI l[i].Subset.Node l[i].Subset.Minus < 0 ↔ (l[i].Subset.Node < 0 ∨ l[i].Subset.Minus < 0) := by unfold mnI; split <;> omega
      have h2 : 127 < mxI l[i].Subset.Node l[i].Subset.Minus ↔ (127 < l[i].Subset.Node ∨ 127 < l[i].Subset.Minus) := by unfold mxI; split <;> omega
      unfold Qey
      by_cases c : mnI l[i].Subset.Node l[i].Subset.Minus < 0
      · rw [if_pos c, decide_eq_true]; rw [h1] at c; unfold OkI; omega
      · rw [if_neg c]; rw [h1] at c; congr 1; apply Bool.eq_iff_iff.2; rw [decide_eq_true_iff, decide_eq_true_iff, h2]; unfold OkI; omega
    have hd : (∀ x ∈ l.drop i, OkI x) ↔ OkI l[i] ∧ ∀ x ∈ l.drop (i + 1), OkI x := by rw [List.drop_eq_getElem_cons hil, List.forall_mem_cons]
    rw [if_pos (by omega), Qjh hil, bind_some, e, bind_some, hd]
    by_cases ho : OkI l[i]
    · rw [decide_eq_false (fun h => h ho), cond_false, Qo0 (by omega)]
      obtain ⟨r, h1, h2⟩ := ixf l hl m (i + 1) fuel (by omega) (by omega) (by omega)
      exact ⟨r, h1, by rw [h2]; exact ⟨fun h h' => h h'.2, fun h h' => h ⟨ho, h'⟩⟩⟩
    · rw [decide_eq_true ho, cond_true]
      exact ⟨_, rfl, ⟨fun _ h => ho h.1, fun _ => by omega⟩⟩
theorem Xg2 (l : List Qbd) (hl : l.length < 4611686018427387904) : Qbj l = some (!decide (∀ x ∈ l, OkI x)) := by
  unfold Qbj Qc8
  obtain ⟨r, h1, h2⟩ := ixf l hl _ 0 Qdn rfl (by omega) (Qo3 (by omega))
  rw [show (0 : Int) = ((0 : Nat) : Int) from rfl, h1, bind_some]
  congr 1
  have h3 : ((0 : Nat) : Int) ≤ r ↔ ¬ ∀ x ∈ l, OkI x := by rw [List.drop_zero] at h2; exact h2
  by_cases h : ∀ x ∈ l, OkI x
  · rw [decide_eq_true h, decide_eq_false (fun h4 => h3.1 h4 h)]; rfl
  · rw [decide_eq_false h, decide_eq_true (h3.2 h)]; rfl
theorem Xod {α : Type} (l : List α) : ((l.length : Int) = 0) ↔ l = [] := by
  cases l with
  | nil => simp
  | cons a l => simp; omega
theorem Xdi (p : Qa4) (hl : p.Head.Items.length < 4611686018427387904) : Qd2 p = some (if VP p then 0 else 8) := by
  have h1 : Qd2 p = Qck p (decide (Qxy p.Head)) := by
    unfold Qd2 Qxy
    simp only [Xod]
    repeat' split
    all_goals simp [*]
  have h2 : ∀ b : Bool, Qbc b = some (if b = true then 0 else 8) := fun b => by cases b <;> rfl
  rw [h1]
  unfold Qck
  simp only [h2]
  by_cases hk : p.Kind = 1#8
  · rw [if_pos hk]
    have e : Qdb p.Epoch = some (decide (0 ≤ p.Epoch ∧ p.Epoch ≤ 1099511627776)) := by
      unfold Qdb; split <;> simp [*]
    rw [e, bind_some, Xg2 _ hl]
    have hv : VP p ↔ Xcr p := by unfold VP; rw [hk]; simp
    simp only [hv, Xcr, bind_some, Xod]
    by_cases c1 : (0 ≤ p.Epoch ∧ p.Epoch ≤ 1099511627776)
    · rw [decide_eq_true c1, cond_true]
      by_cases c2 : p.Low = 0#8
      · by_cases c3 : p.Number = 0#64
        · by_cases c4 : p.Data = []
          · by_cases c5 : p.Head.Items.length ≤ 64
            · by_cases c6 : p.Head.Points.length ≤ 8
              · rw [if_pos c2, if_pos c3, if_pos c4, if_pos (by omega), if_pos (by omega)]
                by_cases c7 : ∀ x ∈ p.Head.Items, OkI x
                · rw [decide_eq_true c7, if_pos (by rfl), if_pos ⟨c1, c2, c3, c4, c5, c6, c7⟩]
                · rw [decide_eq_false c7, if_neg (by simp), if_neg (fun h => c7 h.2.2.2.2.2.2)]
              · rw [if_pos c2, if_pos c3, if_pos c4, if_pos (by omega), if_neg (by omega), if_neg (by simp), if_neg (fun h => c6 h.2.2.2.2.2.1)]
            · rw [if_pos c2, if_pos c3, if_pos c4, if_neg (by omega), if_neg (by simp), if_neg (fun h => c5 h.2.2.2.2.1)]
          · rw [if_pos c2, if_pos c3, if_neg c4, if_neg (by simp), if_neg (fun h => c4 h.2.2.2.1)]
        · rw [if_pos c2, if_neg c3, if_neg (by simp), if_neg (fun h => c3 h.2.2.1)]
      · rw [if_neg c2, if_neg (by simp), if_neg (fun h => c2 h.2.1)]
    · rw [decide_eq_false c1, cond_false, if_neg (by simp), if_neg (fun h => c1 h.1)]
  · rw [if_neg hk]
    by_cases hk2 : p.Kind = 2#8
    · rw [if_pos hk2]
      have hv : VP p ↔ Xct p := by unfold VP; rw [hk2]; simp
      simp only [hv, Xct]
      by_cases c1 : p.Epoch = 0
      · by_cases c2 : p.Low < 4#8
        · by_cases c3 : p.Data.length ≤ 256
          · rw [if_pos c1, if_pos c2, if_pos (by omega)]
            by_cases c4 : Qxy p.Head
            · rw [decide_eq_true c4, if_pos rfl, if_pos ⟨c1, c2, c3, c4⟩]
            · rw [decide_eq_false c4, if_neg (by simp), if_neg (fun h => c4 h.2.2.2)]
          · rw [if_pos c1, if_pos c2, if_neg (by omega), if_neg (by simp), if_neg (fun h => c3 h.2.2.1)]
        · rw [if_pos c1, if_neg c2, if_neg (by simp), if_neg (fun h => c2 h.2.1)]
      · rw [if_neg c1, if_neg (by simp), if_neg (fun h => c1 h.1)]
    · rw [if_neg hk2, if_neg (by simp), if_neg]
      rintro (h | h)
      · exact hk h.1
      · exact hk2 h.1
def itB (x : Qbd) : List (BitVec 8) := [wd8 x.Subset.Node, wd8 x.Subset.Minus] ++ kby x.Box
def ptB (x : Qag) : List (BitVec 8) := be x.X 8 ++ be x.Y 8
def bdy (p : Qa4) : List (BitVec 8) :=
  [p.Kind] ++ (if p.Kind = 2#8 then [p.Low] ++ (be p.Number 8 ++ (be (wd (p.Data.length : Int)) 2 ++ p.Data))
  else be (wd p.Epoch) 8 ++ ([wd8 (p.Head.Items.length : Int)] ++ (p.Head.Items.flatMap itB ++ (be p.Head.Base 8 ++ ([wd8 (p.Head.Points.length : Int)] ++ (p.Head.Points.flatMap ptB ++ (kby p.Head.Box ++ kby p.Head.Check)))))))
def bts (p : Qa4) : List (BitVec 8) := bdy p ++ kby p.Mac
def Sm (p : Qa4) : Prop := p.Head.Items.length ≤ 1000 ∧ p.Head.Points.length ≤ 1000 ∧ p.Data.length ≤ 100000
theorem Qyl (x : Qbd) : (itB x).length = 18 := rfl
theorem Qy1 (x : Qag) : (ptB x).length = 16 := by simp [ptB, Qim]
theorem Qnk {α : Type} (f : α → List (BitVec 8)) (c : Nat) (hf : ∀ a, (f a).length = c) : ∀ l : List α, (l.flatMap f).length = c * l.length
  | [] => by simp
  | a :: l => by rw [List.flatMap_cons, List.length_append, hf, Qnk f c hf l, List.length_cons, Nat.mul_add, Nat.mul_one, Nat.add_comm]
theorem Qwh {α : Type} (f : α → List (BitVec 8)) (l : List α) (j : Nat) (h : j < l.length) : (l.take (j + 1)).flatMap f = (l.take j).flatMap f ++ f l[j] := by rw [Qw8 l j h, List.flatMap_append]; simp
theorem Xi7 (p : Qa4) (hs : Sm p) : Qir p = some (bdy p) := by
  obtain ⟨s1, s2, s3⟩ := hs
  unfold Qir
  rw [Qo8 (kk := 1) _ _ 1 rfl (by omega) (by simp), bind_some, Xko]
  unfold bdy
  by_cases hk : p.Kind = 2#8
  · rw [if_pos hk, if_pos hk, Qo8 (kk := 1) _ _ 1 rfl (by omega) (by simp), bind_some, Xko, Qo8 (kk := 8) _ _ 8 rfl (by omega) (by simp), bind_some, Qo8 (kk := 2) _ _ 2 rfl (by omega) (by simp [Qim]), bind_some, Qgn (by simp [Qim]; omega), bind_some]
    simp
  · rw [if_neg hk, if_neg hk, Qo8 (kk := 8) _ _ 8 rfl (by omega) (by simp), bind_some, Qo8 (kk := 1) _ _ 1 rfl (by omega) (by simp [Qim]), bind_some, Qzt]
    have hI : ∀ j, ((p.Head.Items.take j).flatMap itB).length ≤ 18000 := fun j => by rw [Qnk itB 18 Qyl, List.length_take]; omega
    have hP : ∀ j, ((p.Head.Points.take j).flatMap ptB).length ≤ 16000 := fun j => by rw [Qnk ptB 16 Qy1, List.length_take]; omega
    refine goE _ (fun j x => x = ((j : Int), (⟨[] ++ [p.Kind] ++ be (wd p.Epoch) 8 ++ [wd8 (p.Head.Items.length : Int)] ++ (p.Head.Items.take j).flatMap itB⟩ : Qax))) p.Head.Items.length _ (by omega) (by simp) ?_ ?_
    · rintro j _ hj rfl
      refine ⟨_, rfl, fun rec => ?_⟩
      have := hI j
      simp only [Qhw]
      rw [if_pos (by omega), Qjh hj, bind_some, Qo8 (kk := 1) _ _ 1 rfl (by omega) (by simp only [List.length_append, Qim, List.length_cons, List.length_nil, Qgj]; omega), bind_some, Qzt, Qo8 (kk := 1) _ _ 1 rfl (by omega) (by simp only [List.length_append, Qim, List.length_cons, List.length_nil, Qgj]; omega), bind_some, Qzt]
      unfold Qec
      rw [Qgn (by simp only [List.length_append, Qim, List.length_cons, List.length_nil, Qgj]; omega), bind_some, bind_some, Qo0 (by omega), Qwh itB _ _ hj]
      simp only [itB, List.append_assoc, List.singleton_append, List.cons_append, List.nil_append]
    · rintro _ rfl rec
      have := hI p.Head.Items.length
      simp only [Qhw]
      rw [List.take_length] at this ⊢
      rw [if_neg (by omega), Qo8 (kk := 8) _ _ 8 rfl (by omega) (by simp only [List.length_append, Qim, List.length_cons, List.length_nil, Qgj]; omega), bind_some, Qo8 (kk := 1) _ _ 1 rfl (by omega) (by simp only [List.length_append, Qim, List.length_cons, List.length_nil, Qgj]; omega), bind_some, Qzt]
      refine goE _ (fun j x => x = ((j : Int), (⟨[] ++ [p.Kind] ++ be (wd p.Epoch) 8 ++ [wd8 (p.Head.Items.length : Int)] ++ p.Head.Items.flatMap itB ++ be p.Head.Base 8 ++ [wd8 (p.Head.Points.length : Int)] ++ (p.Head.Points.take j).flatMap ptB⟩ : Qax))) p.Head.Points.length _ (by omega) (by simp) ?_ ?_
      · rintro j _ hj rfl
        refine ⟨_, rfl, fun rec => ?_⟩
        have h2 := hP j
        simp only [Qhs]
        rw [if_pos (by omega), Qjh hj, bind_some, Qo8 (kk := 8) _ _ 8 rfl (by omega) (by simp only [List.length_append, Qim, List.length_cons, List.length_nil]; omega), bind_some, Qo8 (kk := 8) _ _ 8 rfl (by omega) (by simp only [List.length_append, Qim, List.length_cons, List.length_nil]; omega), bind_some, Qo0 (by omega), Qwh ptB _ _ hj]
        simp only [ptB, List.append_assoc]
      · rintro _ rfl rec
        have h2 := hP p.Head.Points.length
        simp only [Qhs]
        unfold Qec
        rw [if_neg (by omega), Qgn (by simp only [List.length_append, Qim, List.length_cons, List.length_nil, Qgj]; omega), bind_some, bind_some, Qgn (by simp only [List.length_append, Qim, List.length_cons, List.length_nil, Qgj]; omega), bind_some, bind_some, List.take_length]
        simp only [List.append_assoc, List.nil_append]
theorem Xiq (p : Qa4) (hs : Sm p) : (bdy p).length ≤ 200000 := by
  obtain ⟨s1, s2, s3⟩ := hs
  unfold bdy
  split
  · simp only [List.length_append, Qim, List.length_cons, List.length_nil]; omega
  · simp only [List.length_append, Qim, List.length_cons, List.length_nil, Qgj, Qnk itB 18 Qyl, Qnk ptB 16 Qy1]; omega
theorem Xgz (p : Qa4) (hs : Sm p) : Qip p = some (if VP p then (bts p, 0) else ([], 8)) := by
  have := Xiq p hs
  unfold Qip
  rw [Xdi p (by have := hs.1; omega), bind_some]
  by_cases hv : VP p
  · rw [if_pos hv, if_neg (by simp), Xi7 p hs, bind_some, Qgn (by rw [Qgj]; omega), bind_some, if_pos hv]; rfl
  · rw [if_neg hv, if_pos (by decide), if_neg hv]
end Go.Sx.Ep

end
section
set_option linter.unusedVariables false
set_option linter.unusedSimpArgs false
set_option maxRecDepth 100000
namespace Go.Sx.Ep
open Go Go.Sx
abbrev By := List (BitVec 8)
def Qsg (l : By) : BitVec 64 := l.foldl (fun n c => 256#64 * n + c.setWidth 64) 0#64
theorem Xk9 (a : BitVec 64) (c : BitVec 8) : (a <<< 8) ||| (c.setWidth 64) = 256#64 * a + c.setWidth 64 := by
  have e1 : 256#64 * a = a <<< 8 := by
    apply BitVec.eq_of_toNat_eq
    rw [BitVec.toNat_mul, BitVec.toNat_shiftLeft, Nat.shiftLeft_eq, Nat.mul_comm]; rfl
  rw [e1]
  symm
  apply BitVec.add_eq_or_of_and_eq_zero
  apply BitVec.eq_of_getLsbD_eq
  intro j hj
  rw [BitVec.getLsbD_and, BitVec.getLsbD_shiftLeft, BitVec.getLsbD_setWidth, BitVec.getLsbD_zero]
  by_cases h : j < 8
  · simp [h]
  · simp [BitVec.getLsbD_of_ge c j (by omega)]
theorem Qt3 (l : By) (c : BitVec 8) : Qsg (l ++ [c]) = 256#64 * Qsg l + c.setWidth 64 := by simp [Qsg]
theorem Xgf (c : BitVec 8) : (c.setWidth 64).toNat = c.toNat := by rw [BitVec.toNat_setWidth]; have := c.isLt; omega
theorem Qqy : ∀ (k : Nat) (l : By), l.length = k → k ≤ 8 → (Qsg l).toNat < 256 ^ k ∧ (∀ c, k < 8 → (Qsg (l ++ [c])).toNat = 256 * (Qsg l).toNat + c.toNat)
  | 0, l, hl, _ => by
    obtain rfl := List.eq_nil_of_length_eq_zero hl
    refine ⟨by simp [Qsg], fun c _ => ?_⟩
    rw [Qt3, BitVec.toNat_add, Xgf]; have := c.isLt; simp [Qsg]; omega
  | k + 1, l, hl, hk => by
    obtain ⟨m, c, rfl⟩ : ∃ m c, l = m ++ [c] := ⟨l.dropLast, l.getLast (by intro h; rw [h] at hl; simp at hl), (List.dropLast_concat_getLast _).symm⟩
    have hm : m.length = k := by simpa using hl
    obtain ⟨h1, h2⟩ := Qqy k m hm (by omega)
    have h3 := h2 c (by omega)
    have hc := c.isLt
    have hb : (Qsg (m ++ [c])).toNat < 256 ^ (k + 1) := by rw [h3, Nat.pow_succ]; omega
    refine ⟨hb, fun d hd => ?_⟩
    have hlt : 256 ^ (k + 1) ≤ 256 ^ 7 := Nat.pow_le_pow_right (by decide) (by omega)
    have h256 : (256 : Nat) ^ 7 = 72057594037927936 := by decide
    rw [Qt3 (m ++ [c]) d, BitVec.toNat_add, BitVec.toNat_mul, Xgf]
    have := d.isLt
    show (256 * (Qsg (m ++ [c])).toNat % 18446744073709551616 + d.toNat) % 18446744073709551616 = _
    omega
theorem Qyc (x : BitVec 64) : ∀ k, be x (k + 1) = be (x >>> 8) k ++ [x.setWidth 8]
  | 0 => by simp [be]
  | k + 1 => by
    rw [be, Qyc x k]
    show _ = ((x >>> 8) >>> (8 * k)).setWidth 8 :: be (x >>> 8) k ++ [x.setWidth 8]
    rw [← BitVec.shiftRight_add, show 8 * (k + 1) = 8 + 8 * k from by omega]; rfl
theorem Xgd : ∀ (k : Nat) (x : BitVec 64), x.toNat < 256 ^ k → k ≤ 8 → Qsg (be x k) = x
  | 0, x, h, _ => by
    have : x = 0#64 := BitVec.eq_of_toNat_eq (by simpa using h)
    subst this; rfl
  | k + 1, x, h, hk => by
    have h1 : (x >>> 8).toNat < 256 ^ k := by
      rw [BitVec.toNat_ushiftRight, Nat.shiftRight_eq_div_pow]
      rw [Nat.pow_succ] at h; omega
    have e := Xgd k (x >>> 8) h1 (by omega)
    rw [Qyc]
    apply BitVec.eq_of_toNat_eq
    rw [(Qqy k _ (Qim _ _) (by omega)).2 _ (by omega), e, BitVec.toNat_ushiftRight, Nat.shiftRight_eq_div_pow, BitVec.toNat_setWidth]
    omega
theorem Xgi : ∀ (k : Nat) (l : By), l.length = k → k ≤ 8 → be (Qsg l) k = l
  | 0, l, hl, _ => by obtain rfl := List.eq_nil_of_length_eq_zero hl; rfl
  | k + 1, l, hl, hk => by
    obtain ⟨m, c, rfl⟩ : ∃ m c, l = m ++ [c] := ⟨l.dropLast, l.getLast (by intro h; rw [h] at hl; simp at hl), (List.dropLast_concat_getLast _).symm⟩
    have hm : m.length = k := by simpa using hl
    have h3 := (Qqy k m hm (by omega)).2 c (by omega)
    have hc := c.isLt
    have e1 : Qsg (m ++ [c]) >>> 8 = Qsg m := by
      apply BitVec.eq_of_toNat_eq
      rw [BitVec.toNat_ushiftRight, Nat.shiftRight_eq_div_pow, h3]; omega
    have e2 : (Qsg (m ++ [c])).setWidth 8 = c := by
      apply BitVec.eq_of_toNat_eq
      rw [BitVec.toNat_setWidth, h3]; omega
    rw [Qyc, e1, e2, Xgi k m hm (by omega)]
def st : Option By → Qab
  | some t => ⟨t, false⟩
  | none => ⟨[], true⟩
def pN (n : Nat) : Option By → By × Option By
  | some t => if n ≤ t.length then (t.take n, some (t.drop n)) else (List.replicate n 0#8, none)
  | none => (List.replicate n 0#8, none)
theorem Qxm (n : Nat) (t : By) : pN n (some t) = if n ≤ t.length then (t.take n, some (t.drop n)) else (List.replicate n 0#8, none) := rfl
theorem Qpw (n : Nat) (o : Option By) : (pN n o).1.length = n := by
  unfold pN; split
  · split <;> simp <;> omega
  · simp
theorem Qyu {n : Nat} {s t : By} (h : s.length = n) : pN n (some (s ++ t)) = (s, some t) := by
  rw [Qxm, if_pos (by simp; omega), List.take_left' h, List.drop_left' h]
theorem Qux {n : Nat} {o : Option By} {t : By} (h : (pN n o).2 = some t) : o = some ((pN n o).1 ++ t) := by
  unfold pN at h ⊢
  split at h
  · split at h
    · rename_i u hu
      rw [if_pos hu]
      have : u.drop n = t := Option.some.inj h
      rw [← this, List.take_append_drop]
    · cases h
  · cases h
theorem mk0 (n : Nat) (h : n ≤ 100000) : mkL 1 (n : Int) 0#8 = some (List.replicate n 0#8) := by unfold mkL; rw [if_pos (by omega)]; simp
theorem Qyo (o : Option By) (n : Nat) {kk : Int} (hkk : kk = (n : Int)) (h : n ≤ 100000) : Qdt (st o) kk = some ((pN n o).1, st (pN n o).2) := by
  subst hkk; unfold Qdt
  have sl : ∀ t : By, n ≤ t.length → Xa9 t 0 (n : Int) = some (t.take n) ∧ Xa9 t (n : Int) (t.length : Int) = some (t.drop n) := fun t ht => by
    unfold Xa9
    rw [if_pos (by omega), if_pos (by omega)]; simp
  cases o with
  | none =>
    by_cases hn : n = 0
    · subst hn; rfl
    · rw [if_pos (by simp [st]; omega), mk0 n h]; rfl
  | some t =>
    by_cases ht : n ≤ t.length
    · obtain ⟨s1, s2⟩ := sl t ht
      rw [if_neg (by simp [st]; omega)]
      rw [Qxm, if_pos ht]
      simp only [st, s1, s2, bind_some]
    · rw [if_pos (by simp [st]; omega), mk0 n h, Qxm, if_neg ht]; rfl
theorem Xc4 (x : By × Qab) (hx : x.1.length ≤ 1000) : ∀ (m i fuel : Nat), x.1.length - i = m → i ≤ x.1.length → m < fuel → Qcr (Qcu x) fuel (Qsg (x.1.take i), (i : Int)) = some (Qsg x.1, x.2)
  | m, i, 0, _, _, hf => by omega
  | 0, i, fuel + 1, hm, hi, hf => by
    rw [Qdw]; simp only [Qcu]; rw [if_neg (by omega), List.take_of_length_le (by omega)]
  | m + 1, i, fuel + 1, hm, hi, hf => by
    rw [Qdw]; simp only [Qcu]
    rw [if_pos (by omega), Qjh (by omega), bind_some, show shG (un 8#64) = some 8 from by decide, bind_some, Xk9, ← Qt3, ← Qw8 _ _ (by omega), Qh4 (by omega) (by omega)]
    exact Xc4 x hx m (i + 1) fuel (by omega) (by omega) (by omega)
theorem Qqn (o : Option By) (k : Nat) {kk : Int} (hkk : kk = (k : Int)) (h : k ≤ 1000) : Qbp (st o) kk = some (Qsg (pN k o).1, st (pN k o).2) := by
  unfold Qbp
  rw [Qyo o k hkk (by omega), bind_some]
  exact Xc4 ((pN k o).1, st (pN k o).2) (by rw [Qpw]; omega) _ 0 Qdn rfl (by omega) (Qo3 (by rw [Qpw]; omega))
def pB (o : Option By) : Int × Option By := (un8 ((pN 1 o).1.headD 0#8), (pN 1 o).2)
theorem Xgt {l : By} (h : l.length = 1) : l = [l.headD 0#8] := by
  match l, h with
  | [a], _ => rfl
theorem Qpj (o : Option By) : Qc3 (st o) = some ((pB o).1, st (pB o).2) := by
  unfold Qc3
  rw [Qqn (kk := 1) o 1 rfl (by omega), bind_some]
  have e := Xgt (Qpw 1 o)
  have e2 : un (Qsg (pN 1 o).1) = un8 ((pN 1 o).1.headD 0#8) := by
    generalize (pN 1 o).1 = l at e
    rw [e]
    have := (Qqy 0 [] rfl (by omega)).2 (l.headD 0#8) (by omega)
    rw [List.nil_append] at this
    unfold un un8
    rw [this]; simp [Qsg]
  simp only [e2]
  have := Qhb ((pN 1 o).1.headD 0#8)
  have := Qhf ((pN 1 o).1.headD 0#8)
  rw [Qh4 (by omega) (by omega)]; rfl
theorem Qxz (c : BitVec 8) : wd8 (un8 c) = c := Qyi (by
  have := c.isLt
  unfold un8 wd8; rw [BitVec.toNat_ofInt]; omega)
theorem Qvj {n : Int} (h0 : 0 ≤ n) (h1 : n ≤ 255) : un8 (wd8 n) = n := by
  unfold un8 wd8
  rw [BitVec.toNat_ofInt]; omega
theorem Qub (c : BitVec 8) (t : By) : pB (some ([c] ++ t)) = (un8 c, some t) := by unfold pB; rw [Qyu (n := 1) (s := [c]) rfl]; rfl
theorem Qqv {o : Option By} {t : By} (h : (pB o).2 = some t) : o = some ([wd8 (pB o).1] ++ t) := by
  have := Qux (n := 1) (o := o) h
  unfold pB
  simp only [Qxz]
  rw [← Xgt (Qpw 1 o)]; exact this
theorem Xi4 (o : Option By) : 0 ≤ (pB o).1 ∧ (pB o).1 ≤ 255 := ⟨Qhb _, Qhf _⟩
def pK (o : Option By) : W2 × Option By := (ofB (pN 16 o).1, (pN 16 o).2)
theorem Que (o : Option By) : Qc4 (st o) = some ((pK o).1, st (pK o).2) := by
  unfold Qc4
  rw [Qyo (kk := 16) o 16 rfl (by omega), bind_some]
  have e : Xj1 (pN 16 o).1 = some (ofB (pN 16 o).1) := by unfold Xj1; rw [if_pos (by rw [Qpw]; omega)]
  simp only [e, bind_some]; rfl
theorem Xf7 (p : W2) : ofB (kby p) = p := by have := Xig p []; rwa [List.append_nil] at this
theorem Xes {l : By} (h : l.length = 16) : kby (ofB l) = l := by rw [Qs7 (by omega), List.take_of_length_le (by omega)]
theorem Qzn (p : W2) (t : By) : pK (some (kby p ++ t)) = (p, some t) := by unfold pK; rw [Qyu (Qgj p), Xf7]
theorem Qvc {o : Option By} {t : By} (h : (pK o).2 = some t) : o = some (kby (pK o).1 ++ t) := by
  have := Qux (n := 16) (o := o) h
  unfold pK
  rw [Xes (Qpw 16 o)]; exact this
def pV (k : Nat) (o : Option By) : BitVec 64 × Option By := (Qsg (pN k o).1, (pN k o).2)
theorem Xgw {k : Nat} (x : BitVec 64) (t : By) (hx : x.toNat < 256 ^ k) (hk : k ≤ 8) : pV k (some (be x k ++ t)) = (x, some t) := by unfold pV; rw [Qyu (Qim x k), Xgd k x hx hk]
theorem pV8 (x : BitVec 64) (t : By) : pV 8 (some (be x 8 ++ t)) = (x, some t) := Xgw x t x.isLt (by omega)
theorem Qs0 {k : Nat} {o : Option By} {t : By} (h : (pV k o).2 = some t) (hk : k ≤ 8) : o = some (be (pV k o).1 k ++ t) := by
  have := Qux (n := k) (o := o) h
  unfold pV
  rw [Xgi k _ (Qpw k o) hk]; exact this
def pI (o : Option By) : Qbd × Option By := (⟨⟨(pB o).1, (pB (pB o).2).1⟩, (pK (pB (pB o).2).2).1⟩, (pK (pB (pB o).2).2).2)
theorem Xj6 (o : Option By) : Qg0 (st o) = some ((pI o).1, st (pI o).2) := by
  unfold Qg0
  rw [Qpj, bind_some]; simp only
  rw [Qpj, bind_some]; simp only
  rw [Que, bind_some]; rfl
def pP (o : Option By) : Qag × Option By := (⟨(pV 8 o).1, (pV 8 (pV 8 o).2).1⟩, (pV 8 (pV 8 o).2).2)
theorem Xel (o : Option By) : Qe3 (st o) = some ((pP o).1, st (pP o).2) := by
  unfold Qe3
  rw [Qqn (kk := 8) o 8 rfl (by omega), bind_some]; simp only
  rw [Qqn (kk := 8) _ 8 rfl (by omega), bind_some]; rfl
theorem Xkr {x : Qbd} (h : OkI x) (t : By) : pI (some (itB x ++ t)) = (x, some t) := by
  obtain ⟨⟨h1, h2⟩, h3, h4⟩ := h
  unfold pI itB
  rw [show [wd8 x.Subset.Node, wd8 x.Subset.Minus] ++ kby x.Box ++ t = [wd8 x.Subset.Node] ++ ([wd8 x.Subset.Minus] ++ (kby x.Box ++ t)) from by simp, Qub, Qub, Qzn, Qvj h1 (by omega), Qvj h3 (by omega)]
theorem Xi1 {o : Option By} {t : By} (h : (pI o).2 = some t) : o = some (itB (pI o).1 ++ t) := by
  have h1 := Qvc (o := (pB (pB o).2).2) h
  have h2 := Qqv h1
  have h3 := Qqv h2
  rw [h3]; congr 1; unfold pI itB
  rw [← h3]; simp
theorem Xk1 (x : Qag) (t : By) : pP (some (ptB x ++ t)) = (x, some t) := by
  unfold pP ptB
  rw [List.append_assoc, pV8, pV8]
theorem Xj0 {o : Option By} {t : By} (h : (pP o).2 = some t) : o = some (ptB (pP o).1 ++ t) := by
  have h1 := Qs0 (k := 8) (o := (pV 8 o).2) h (by omega)
  have h2 := Qs0 (k := 8) h1 (by omega)
  rw [h2]; congr 1; unfold pP ptB
  rw [← h2]; simp
def lp {α : Type} (one : Option By → α × Option By) : Nat → List α → Option By → List α × Option By
  | 0, acc, o => (acc, o)
  | _ + 1, _, none => ([], none)
  | n + 1, acc, some t => lp one n (acc ++ [(one (some t)).1]) (one (some t)).2
theorem Qy7 {α : Type} {one : Option By → α × Option By} {enc : α → By} (h1 : ∀ {o t}, (one o).2 = some t → o = some (enc (one o).1 ++ t)) : ∀ (n : Nat) (acc : List α) (o : Option By) (t : By), (lp one n acc o).2 = some t → ∃ l, (lp one n acc o).1 = acc ++ l ∧ l.length = n ∧ o = some (l.flatMap enc ++ t)
  | 0, acc, o, t, h => ⟨[], by simp [lp], rfl, by simpa [lp] using h⟩
  | n + 1, acc, none, t, h => by cases h
  | n + 1, acc, some u, t, h => by
    rw [lp] at h
    obtain ⟨l, a1, a2, a3⟩ := Qy7 h1 n _ _ t h
    refine ⟨(one (some u)).1 :: l, ?_, by simp [a2], ?_⟩
    · rw [lp, a1]; simp
    · rw [List.flatMap_cons, List.append_assoc]; exact h1 a3
theorem Xd6 {α : Type} {one : Option By → α × Option By} {enc : α → By} : ∀ (l acc : List α) (t : By), (∀ x ∈ l, ∀ t, one (some (enc x ++ t)) = (x, some t)) → lp one l.length acc (some (l.flatMap enc ++ t)) = (acc ++ l, some t)
  | [], acc, t, _ => by simp [lp]
  | x :: l, acc, t, h => by
    rw [List.length_cons, lp, List.flatMap_cons, List.append_assoc, h x (by simp), Xd6 l (acc ++ [x]) t fun y hy => h y (by simp [hy])]
    simp
def zP : Qa4 := Qa4.mk 0#8 0 (Qa8.mk [] 0#64 [] k0 k0) 0#8 0#64 [] k0
def fin (k : BitVec 8) (ep : Int) (hd : Qa8) (lo : BitVec 8) (nu : BitVec 64) (da : By) (o : Option By) : Qa4 × Int :=
  if (pK o).2 = some [] ∧ VP ⟨k, ep, hd, lo, nu, da, (pK o).1⟩ then (⟨k, ep, hd, lo, nu, da, (pK o).1⟩, 0) else (zP, 8)
theorem Xce (x1 : Int × Qab) (o : Option By) (ep : Int) (its : List Qbd) (ba : BitVec 64) (pts : List Qag) (bx ck : W2) (lo : BitVec 8) (nu : BitVec 64) (da : By) (hl : its.length < 4611686018427387904) :
    Qdi x1 (st o) ep its ba pts bx ck lo nu da = some (fin (wd8 x1.1) ep ⟨its, ba, pts, bx, ck⟩ lo nu da o) := by
  unfold Qdi
  rw [Que, bind_some]
  simp only
  unfold fin
  have hj : ∀ b : Bool, Qfu x1 ep its ba pts bx ck lo nu da ((pK o).1, st (pK o).2) b = some (if b = true then (zP, 8) else (⟨wd8 x1.1, ep, ⟨its, ba, pts, bx, ck⟩, lo, nu, da, (pK o).1⟩, 0)) := fun b => by cases b <;> rfl
  simp only [hj]
  rw [Xdi _ hl, bind_some]
  cases h : (pK o).2 with
  | none =>
    show some (zP, 8) = some _
    rw [if_neg (fun h => by cases h.1)]
  | some t =>
    rw [show (st (some t)).short = false from rfl, cond_false, show (st (some t)).b = t from rfl]
    cases t with
    | cons a t =>
      rw [if_pos (c := (0 : Int) < (((a :: t).length : Nat) : Int)) (by simp)]
      show some (zP, 8) = some _
      rw [if_neg (fun h => by cases h.1)]
    | nil =>
      rw [if_neg (c := (0 : Int) < ((([] : By).length : Nat) : Int)) (by simp)]
      by_cases hv : VP ⟨wd8 x1.1, ep, ⟨its, ba, pts, bx, ck⟩, lo, nu, da, (pK o).1⟩
      · rw [if_pos hv, if_neg (show ¬ decide ((0 : Int) ≠ 0) = true from by decide), if_pos ⟨rfl, hv⟩]
      · rw [if_neg hv, if_pos (show decide ((8 : Int) ≠ 0) = true from by decide), if_neg (fun h => hv h.2)]
def Xmj (k : BitVec 8) (ep : Int) (its : List Qbd) (ba : BitVec 64) (x : List Qag × Option By) : Qa4 × Int := fin k ep ⟨its, ba, x.1, (pK x.2).1, (pK (pK x.2).2).1⟩ 0#8 0#64 [] (pK (pK x.2).2).2
def Xkn (k : BitVec 8) (ep : Int) (x : List Qbd × Option By) : Qa4 × Int := Xmj k ep x.1 (pV 8 x.2).1 (lp pP (pB (pV 8 x.2).2).1.toNat [] (pB (pV 8 x.2).2).2)
theorem Qz9 (x1 : Int × Qab) (x24 : BitVec 64 × Qab) (its : List Qbd) (hits : its.length < 4611686018427387904) (x56 : BitVec 64 × Qab) (x57 : Int × Qab) (n : Nat) (hn : x57.1 = (n : Int)) (h255 : n ≤ 255) : ∀ (m j fuel : Nat) (acc : List Qag) (o : Option By), n - j = m → j ≤ n → m < fuel → acc.length ≤ j →
    Qcr (Qd7 x1 x24 its x56 x57) fuel (acc, (j : Int), st o) = some (Xmj (wd8 x1.1) (w64 (un x24.1)) its x56.1 (lp pP m acc o))
  | m, j, 0, _, _, _, _, hf, _ => by omega
  | 0, j, fuel + 1, acc, o, hm, hj, hf, ha => by
    rw [Qdw]; simp only [Qd7]
    rw [if_neg (by omega), Que, bind_some]; simp only
    rw [Que, bind_some]; simp only
    rw [Xce _ _ _ _ _ _ _ _ _ _ _ hits]; rfl
  | m + 1, j, fuel + 1, acc, none, hm, hj, hf, ha => by
    rw [Qdw]; simp only [Qd7]
    rw [if_pos (by omega)]; simp only [st, cond_true]
    rw [show (⟨[], true⟩ : Qab) = st none from rfl, Que, bind_some]; simp only
    rw [Que, bind_some]; simp only
    rw [Xce _ _ _ _ _ _ _ _ _ _ _ hits]; rfl
  | m + 1, j, fuel + 1, acc, some t, hm, hj, hf, ha => by
    rw [Qdw]; simp only [Qd7]
    rw [if_pos (by omega)]; simp only [st, cond_false]
    rw [show (⟨t, false⟩ : Qab) = st (some t) from rfl, Xel, bind_some]; simp only
    rw [Qgn (by simp; omega), bind_some, Qo0 (by omega)]
    exact Qz9 x1 x24 its hits x56 x57 n hn h255 m (j + 1) fuel _ _ (by omega) (by omega) (by omega) (by simp; omega)
theorem L45 (x1 : Int × Qab) (x24 : BitVec 64 × Qab) (a : BitVec 64 × Qab) (b : Int × Qab) : Qhi x1 x24 a b = Qd7 x1 x24 [] a b := rfl
theorem Xbe (x1 : Int × Qab) (x24 : BitVec 64 × Qab) (its : List Qbd) (hits : its.length < 4611686018427387904) (o : Option By) :
    (Option.bind (Qbp (st o) 8) fun x56 => Option.bind (Qc3 x56.2) fun x57 => Qcr (Qd7 x1 x24 its x56 x57) Qdn ([], 0, x57.2)) = some (Xkn (wd8 x1.1) (w64 (un x24.1)) (its, o)) := by
  rw [Qqn (kk := 8) o 8 rfl (by omega), bind_some]; simp only
  rw [Qpj, bind_some]; simp only
  have hb := Xi4 (pN 8 o).2
  have h0 : (((pB (pN 8 o).2).1.toNat : Nat) : Int) = (pB (pN 8 o).2).1 := Int.toNat_of_nonneg hb.1
  exact Qz9 x1 x24 its hits (Qsg (pN 8 o).1, st (pN 8 o).2) ((pB (pN 8 o).2).1, st (pB (pN 8 o).2).2) (pB (pN 8 o).2).1.toNat h0.symm (by omega) _ 0 Qdn [] (pB (pN 8 o).2).2 rfl (by omega) (Qo3 (by show (pB (pN 8 o).2).1.toNat - 0 < _; omega)) (by simp)
theorem Qzy (x1 : Int × Qab) (x24 : BitVec 64 × Qab) (x25 : Int × Qab) (n : Nat) (hn : x25.1 = (n : Int)) (h255 : n ≤ 255) : ∀ (m j fuel : Nat) (acc : List Qbd) (o : Option By), n - j = m → j ≤ n → m < fuel → acc.length ≤ j →
    Qcr (Qdz x1 x24 x25) fuel (acc, (j : Int), st o) = some (Xkn (wd8 x1.1) (w64 (un x24.1)) (lp pI m acc o))
  | m, j, 0, _, _, _, _, hf, _ => by omega
  | 0, j, fuel + 1, acc, o, hm, hj, hf, ha => by
    rw [Qdw]; simp only [Qdz]
    rw [if_neg (by omega), Xbe _ _ _ (by omega)]; rfl
  | m + 1, j, fuel + 1, acc, none, hm, hj, hf, ha => by
    rw [Qdw]; simp only [Qdz]
    rw [if_pos (by omega)]; simp only [st, cond_true, L45]
    rw [show (⟨[], true⟩ : Qab) = st none from rfl, Xbe _ _ _ (by simp)]; rfl
  | m + 1, j, fuel + 1, acc, some t, hm, hj, hf, ha => by
    rw [Qdw]; simp only [Qdz]
    rw [if_pos (by omega)]; simp only [st, cond_false]
    rw [show (⟨t, false⟩ : Qab) = st (some t) from rfl, Xj6, bind_some]; simp only
    rw [Qgn (by simp; omega), bind_some, Qo0 (by omega)]
    exact Qzy x1 x24 x25 n hn h255 m (j + 1) fuel _ _ (by omega) (by omega) (by omega) (by simp; omega)
def Xml (k : BitVec 8) (o : Option By) : Qa4 × Int :=
  fin k 0 ⟨[], 0#64, [], k0, k0⟩ (wd8 (pB o).1) (pV 8 (pB o).2).1 (pN (pV 2 (pV 8 (pB o).2).2).1.toNat (pV 2 (pV 8 (pB o).2).2).2).1 (pN (pV 2 (pV 8 (pB o).2).2).1.toNat (pV 2 (pV 8 (pB o).2).2).2).2
def Xmc (k : BitVec 8) (o : Option By) : Qa4 × Int :=
  if 1099511627776#64 < (pV 8 o).1 then (zP, 8) else Xkn k (w64 (un (pV 8 o).1)) (lp pI (pB (pV 8 o).2).1.toNat [] (pB (pV 8 o).2).2)
def Qxo (b : By) : Qa4 × Int := if wd8 (pB (some b)).1 = 2#8 then Xml (wd8 (pB (some b)).1) (pB (some b)).2 else Xmc (wd8 (pB (some b)).1) (pB (some b)).2
theorem Qz7 (b : By) : Qg5 b = some (Qxo b) := by
  unfold Qg5 Qxo
  rw [show (⟨b, false⟩ : Qab) = st (some b) from rfl, Qpj, bind_some]; simp only
  by_cases hk : wd8 (pB (some b)).1 = 2#8
  · rw [if_pos hk, if_pos hk, Qpj, bind_some]; simp only
    rw [Qqn (kk := 8) _ 8 rfl (by omega), bind_some]; simp only
    rw [Qqn (kk := 2) _ 2 rfl (by omega), bind_some]; simp only
    generalize ho : (pN 8 (pB (pB (some b)).2).2).2 = o2
    have hv : (Qsg (pN 2 o2).1).toNat < 65536 := (Qqy 2 _ (Qpw 2 _) (by omega)).1
    have e : w64 (un (Qsg (pN 2 o2).1)) = ((Qsg (pN 2 o2).1).toNat : Int) := Qh4 (by unfold un; omega) (by unfold un; omega)
    rw [Qyo _ _ e (by omega), bind_some]; simp only
    unfold Qhu
    rw [Qgn (by rw [Qpw]; simp; omega), bind_some, bind_some, Xce _ _ _ _ _ _ _ _ _ _ _ (by simp)]
    unfold Xml pV
    rw [ho]; rfl
  · rw [if_neg hk, if_neg hk, Qqn (kk := 8) _ 8 rfl (by omega), bind_some]; simp only
    unfold Xmc pV
    by_cases hm : 1099511627776#64 < Qsg (pN 8 (pB (some b)).2).1
    · rw [if_pos hm, if_pos hm]; rfl
    · rw [if_neg hm, if_neg hm, Qpj, bind_some]; simp only
      have hb := Xi4 (pN 8 (pB (some b)).2).2
      have h0 : (((pB (pN 8 (pB (some b)).2).2).1.toNat : Nat) : Int) = (pB (pN 8 (pB (some b)).2).2).1 := Int.toNat_of_nonneg hb.1
      exact Qzy _ _ _ (pB (pN 8 (pB (some b)).2).2).1.toNat h0.symm (by omega) _ 0 Qdn [] _ rfl (by omega) (Qo3 (by omega)) (by simp)
theorem Qzw {k : BitVec 8} {ep : Int} {hd : Qa8} {lo : BitVec 8} {nu : BitVec 64} {da : By} {o : Option By} (h : (fin k ep hd lo nu da o).2 = 0) :
    ∃ m, fin k ep hd lo nu da o = (⟨k, ep, hd, lo, nu, da, m⟩, 0) ∧ VP ⟨k, ep, hd, lo, nu, da, m⟩ ∧ o = some (kby m) := by
  unfold fin at h ⊢
  split at h
  · rename_i hc
    rw [if_pos hc]
    refine ⟨_, rfl, hc.2, ?_⟩
    have := Qvc hc.1
    rwa [List.append_nil] at this
  · cases h
theorem Xge (k : BitVec 8) (ep : Int) (hd : Qa8) (lo : BitVec 8) (nu : BitVec 64) (da : By) (o : Option By) : fin k ep hd lo nu da o = (zP, 8) ∨ (fin k ep hd lo nu da o).2 = 0 := by
  unfold fin; split
  · exact .inr rfl
  · exact .inl rfl
theorem Xlj (b : By) : Qxo b = (zP, 8) ∨ (Qxo b).2 = 0 := by
  unfold Qxo; split
  · exact Xge _ _ _ _ _ _ _
  · unfold Xmc; split
    · exact .inl rfl
    · exact Xge _ _ _ _ _ _ _
theorem Xd9 {o : Option By} {n : Nat} (h : n = (pB o).1.toNat) : wd8 (n : Int) = wd8 (pB o).1 := by
  rw [h, Int.toNat_of_nonneg (Xi4 o).1]
theorem Xgx (x : BitVec 64) : wd ((x.toNat : Nat) : Int) = x := by
  apply BitVec.eq_of_toNat_eq; unfold wd; rw [BitVec.toNat_ofInt]; have := x.isLt; omega
theorem Qys {b : By} (h : (Qxo b).2 = 0) : VP (Qxo b).1 ∧ bts (Qxo b).1 = b := by
  unfold Qxo at h ⊢
  split at h
  · rename_i hk
    rw [if_pos hk]
    obtain ⟨m, e, hv, ho⟩ := Qzw h
    unfold Xml
    rw [e]
    refine ⟨hv, ?_⟩
    have h1 := Qux ho
    have h2 := Qs0 (k := 2) h1 (by omega)
    have h3 := Qs0 (k := 8) h2 (by omega)
    have h4 := Qqv h3
    have h5 := Qqv h4
    refine Eq.trans ?_ (Option.some.inj h5).symm
    unfold bts bdy
    simp only
    rw [if_pos hk, Qpw, Xgx]
    simp only [List.append_assoc]
  · rename_i hk
    rw [if_neg hk]
    unfold Xmc at h ⊢
    split at h
    · cases h
    · rename_i hm
      rw [if_neg hm]
      unfold Xkn Xmj at h ⊢
      obtain ⟨m, e, hv, ho⟩ := Qzw h
      rw [e]
      refine ⟨hv, ?_⟩
      have h1 := Qvc ho
      have h2 := Qvc h1
      obtain ⟨lP, p1, p2, p3⟩ := Qy7 (one := pP) (enc := ptB) Xj0 _ _ _ _ h2
      have h3 := Qqv p3
      have h4 := Qs0 (k := 8) h3 (by omega)
      obtain ⟨lI, i1, i2, i3⟩ := Qy7 (one := pI) (enc := itB) Xi1 _ _ _ _ h4
      have h5 := Qqv i3
      have h6 := Qs0 (k := 8) h5 (by omega)
      have h7 := Qqv h6
      refine Eq.trans ?_ (Option.some.inj h7).symm
      unfold bts bdy
      simp only
      rw [if_neg hk, p1, i1, List.nil_append, List.nil_append, Xd9 p2, Xd9 i2]
      have hle : (pV 8 (pB (some b)).2).1.toNat ≤ 1099511627776 := by
        have : ¬ (1099511627776 < (pV 8 (pB (some b)).2).1.toNat) := fun h => hm (by rw [BitVec.lt_def]; exact h)
        omega
      rw [show w64 (un (pV 8 (pB (some b)).2).1) = (((pV 8 (pB (some b)).2).1.toNat : Nat) : Int) from Qh4 (by unfold un; omega) (by unfold un; omega), Xgx]
      simp only [List.append_assoc]
theorem Xc3 {k : BitVec 8} {ep : Int} {hd : Qa8} {lo : BitVec 8} {nu : BitVec 64} {da : By} (m : W2) (t : By) (hv : VP ⟨k, ep, hd, lo, nu, da, m⟩) : fin k ep hd lo nu da (some (kby m ++ t)) = if t = [] then (⟨k, ep, hd, lo, nu, da, m⟩, 0) else (zP, 8) := by
  unfold fin
  rw [Qzn]
  by_cases ht : t = []
  · subst ht; rw [if_pos ⟨rfl, hv⟩, if_pos rfl]
  · rw [if_neg (by simp [ht]), if_neg ht]
theorem Qxu {p : Qa4} (hv : VP p) (t : By) : Qxo (bts p ++ t) = if t = [] then (p, 0) else (zP, 8) := by
  obtain ⟨k, ep, ⟨its, ba, pts, bx, ck⟩, lo, nu, da, m⟩ := p
  unfold Qxo bts bdy
  simp only
  rw [List.append_assoc, List.append_assoc, Qub, Qxz]
  simp only
  have hv' := hv
  rcases hv with ⟨hk, hh⟩ | ⟨hk, hc⟩
  · simp only at hk
    obtain ⟨⟨e0, e1⟩, c2, c3, c4, c5, c6, c7⟩ := hh
    simp only at c2 c3 c4 c5 c6 c7 e0 e1
    subst hk
    rw [if_neg (by decide), if_neg (by decide)]
    unfold Xmc
    have hen : (wd ep).toNat = ep.toNat := by unfold wd; rw [BitVec.toNat_ofInt]; omega
    have e8 : w64 (un (wd ep)) = ep := by unfold un; rw [hen, Qh4 (by omega) (by omega)]; omega
    rw [List.append_assoc, pV8, if_neg (by rw [BitVec.lt_def, hen]; show ¬ 1099511627776 < ep.toNat; omega)]
    simp only
    rw [List.append_assoc, Qub, e8, Qvj (by omega) (by omega)]
    simp only [Int.toNat_natCast, List.append_assoc]
    rw [Xd6 its [] _ fun x hx t => Xkr (c7 x hx) t]
    unfold Xkn
    simp only [List.nil_append]
    rw [pV8]
    simp only
    rw [Qub, Qvj (by omega) (by omega)]
    simp only [Int.toNat_natCast]
    rw [Xd6 pts [] _ fun x _ t => Xk1 x t]
    unfold Xmj
    simp only [List.nil_append]
    rw [Qzn]
    simp only
    rw [Qzn]
    simp only
    subst c2; subst c3; subst c4
    exact Xc3 m t hv'
  · simp only at hk
    obtain ⟨c1, c2, c3, c4⟩ := hc
    unfold Qxy at c4
    simp only at c1 c2 c3 c4
    obtain ⟨b1, b2, b3, b4, b5⟩ := c4
    subst hk
    rw [if_pos rfl, if_pos rfl]
    unfold Xml
    have hn : (wd (da.length : Int)).toNat = da.length := by unfold wd; rw [BitVec.toNat_ofInt]; omega
    simp only [List.append_assoc]
    rw [Qub, Qxz]
    simp only
    rw [pV8]
    simp only
    rw [Xgw (k := 2) _ _ (by rw [hn]; show da.length < 65536; omega) (by omega)]
    simp only
    rw [hn, Qyu rfl]
    simp only
    subst c1; subst b1; subst b2; subst b3; subst b4; subst b5
    exact Xc3 m t hv'
end Go.Sx.Ep

end
section
set_option linter.unusedVariables false
set_option linter.unusedSimpArgs false
set_option maxRecDepth 100000
namespace Go.Sx
open Go Go.Sx.Ep
theorem Xok (p : Qa8) (h1 : p.Items.length < 4611686018427387904) (h2 : p.Points.length < 4611686018427387904) : Qgp p p = some true := by
  unfold Qgp
  simp only [ne_eq, not_true_eq_false, if_false, decide_false]
  unfold Qd0
  rw [cond_false]
  refine goE _ (fun j x => x = (j : Int)) p.Items.length _ (by omega) rfl ?_ ?_
  · rintro j _ hj rfl
    refine ⟨_, rfl, fun rec => ?_⟩
    simp only [Qdr]
    rw [if_pos (by omega), Qjh hj, bind_some, bind_some, if_neg (by simp), Qo0 (by omega)]
  · rintro _ rfl rec
    simp only [Qdr]
    rw [if_neg (by omega)]
    refine goE _ (fun j x => x = (j : Int)) p.Points.length _ (by omega) rfl ?_ ?_
    · rintro j _ hj rfl
      refine ⟨_, rfl, fun rec => ?_⟩
      simp only [Qdo]
      rw [if_pos (by omega), Qjh hj, bind_some, bind_some, if_neg (by simp), Qo0 (by omega)]
    · rintro _ rfl rec
      simp only [Qdo]
      rw [if_neg (by omega)]
theorem Xop (p : Qa4) (h1 : p.Head.Items.length < 4611686018427387904) (h2 : p.Head.Points.length < 4611686018427387904) : Qgr p p = some true := by
  unfold Qgr
  rw [if_pos rfl, if_pos rfl, Xok _ h1 h2, bind_some, cond_true, if_pos rfl, if_pos rfl, if_pos rfl, decide_eq_true rfl]
theorem Xk0 {p : Qa4} (hv : VP p) : Sm p := by
  rcases hv with ⟨_, _, _, _, c4, c5, c6, _⟩ | ⟨_, _, _, c3, b1, b2, _⟩
  · exact ⟨by omega, by omega, by rw [c4]; simp⟩
  · exact ⟨by rw [b1]; simp, by rw [b2]; simp, by omega⟩
theorem Xja {p : Qa4} (hv : VP p) : (bts p).length = if p.Kind = 1#8 then 67 + 18 * p.Head.Items.length + 16 * p.Head.Points.length else 28 + p.Data.length := by
  unfold bts bdy
  rcases hv with ⟨hk, _⟩ | ⟨hk, _⟩
  · rw [if_pos hk, if_neg (by rw [hk]; decide)]
    simp only [List.length_append, Qim, List.length_cons, List.length_nil, Qgj, Qnk itB 18 Qyl, Qnk ptB 16 Qy1]; omega
  · rw [if_pos hk, if_neg (by rw [hk]; decide)]
    simp only [List.length_append, Qim, List.length_cons, List.length_nil, Qgj]; omega
theorem Xdp {p : Qa4} (hv : VP p) (n : Int) (sz : Int) (hsz : sz = ((bts p).length : Int)) (hl : (bts p).length ≤ 300000) : Qea p n true (bts p, 0) sz = some true := by
  have hs := Xk0 hv
  obtain ⟨s1, s2, s3⟩ := id hs
  have d0 : Qxo (bts p) = (p, 0) := by have := Qxu hv []; rwa [List.append_nil, if_pos rfl] at this
  have d1 : Qxo (bts p ++ [0#8]) = (zP, 8) := by have := Qxu hv [0#8]; rwa [if_neg (by simp)] at this
  unfold Qea
  simp only
  rw [Qz7, bind_some, d0]
  simp only
  rw [if_neg (by simp), Xop _ (by omega) (by omega), bind_some, Bool.not_true, cond_false, decide_eq_false (by simp [hsz])]
  unfold Qe4
  rw [cond_false]
  simp only
  rw [Qgn (by simp; omega), bind_some, List.nil_append, Qgn (by simp; omega), bind_some, Qz7, bind_some, d1]
  unfold Qff
  by_cases h0 : n < 0
  · rw [if_pos h0]; rfl
  rw [if_neg h0]
  by_cases h1 : ((bts p).length : Int) ≤ n
  · rw [decide_eq_true h1]; rfl
  rw [decide_eq_false h1, cond_false]
  have hsl : Xa9 (bts p) 0 n = some ((bts p).take n.toNat) := by
    unfold Xa9
    rw [if_pos ⟨by omega, by omega, by omega⟩]; simp
  simp only
  rw [hsl, bind_some, Qz7, bind_some, cond_true, if_pos trivial]
  have hd : (Qxo ((bts p).take n.toNat)).2 = 8 := by
    rcases Xlj ((bts p).take n.toNat) with h | h
    · rw [h]
    · exfalso
      obtain ⟨hq, hb⟩ := Qys h
      have h2 := Qxu hq ((bts p).drop n.toNat)
      rw [hb, List.take_append_drop, d0, if_neg (by
        intro e
        have : ((bts p).drop n.toNat).length = 0 := by rw [e]; rfl
        rw [List.length_drop] at this; omega)] at h2
      have := congrArg Prod.snd h2
      simp at this
  rw [hd]; rfl
theorem Xc8 (p : Qa4) (n : Int) (hs : Sm p) : Qe6 p n true = some true := by
  unfold Qe6
  rw [Xgz p hs, bind_some]
  by_cases hv : VP p
  · rw [if_pos hv]
    have hl := Xja hv
    obtain ⟨s1, s2, s3⟩ := hs
    simp only
    rw [if_neg (by simp)]
    by_cases hk : p.Kind = 1#8
    · rw [if_pos hk] at hl ⊢
      refine Xdp hv n _ ?_ (by omega)
      rw [Qh4 (n := 18 * (p.Head.Items.length : Int)) (by omega) (by omega), Qh4 (n := 67 + 18 * (p.Head.Items.length : Int)) (by omega) (by omega), Qh4 (n := 16 * (p.Head.Points.length : Int)) (by omega) (by omega), Qh4 (by omega) (by omega)]
      omega
    · rw [if_neg hk] at hl ⊢
      refine Xdp hv n _ ?_ (by omega)
      rw [Qh4 (by omega) (by omega)]; omega
  · rw [if_neg hv]; rfl
theorem Qra (p : Qa4) (b : By) (n : Int) (hp : p.ok) (hb : b.length * 1 ≤ 140737488351232) (hn : I64 n) : Qiw p b n = some true := by
  unfold Qiw
  rw [Xlx, bind_some]
  have hg : Qll (Qap.mk 0 [] (Qag.mk 0#64 0#64)) p = some (decide (¬ (p.Head.Items.length ≤ 100 ∧ p.Head.Points.length ≤ 50 ∧ p.Data.length ≤ 1000))) := by
    unfold Qll
    rw [if_neg (by simp)]
    by_cases h1 : (100 : Int) < (p.Head.Items.length : Int)
    · rw [if_pos h1, decide_eq_true (by omega)]
    · rw [if_neg h1]
      by_cases h2 : (50 : Int) < (p.Head.Points.length : Int)
      · rw [if_pos h2, decide_eq_true (by omega)]
      · rw [if_neg h2]
        congr 1; apply Bool.eq_iff_iff.2; rw [decide_eq_true_iff, decide_eq_true_iff]; omega
  rw [hg, bind_some]
  by_cases hs : p.Head.Items.length ≤ 100 ∧ p.Head.Points.length ≤ 50 ∧ p.Data.length ≤ 1000
  · rw [decide_eq_false (by simpa using hs), cond_false]
    by_cases hl : (3000 : Int) < (b.length : Int)
    · rw [if_pos hl]; rfl
    rw [if_neg hl, Bool.not_true]
    have hsm : Sm p := ⟨by omega, by omega, by omega⟩
    unfold Qeb
    rw [cond_false, Qz7, bind_some]
    by_cases hd : (Qxo b).2 = 0
    · obtain ⟨hq, hbt⟩ := Qys hd
      have hqs := Xk0 hq
      rw [if_pos hd, Xgz _ hqs, bind_some, if_pos hq]
      simp only
      rw [if_neg (by simp), if_neg (by rw [hbt]; simp), Xdi _ (by have := hqs.1; omega), bind_some, if_pos hq, decide_eq_false (by simp)]
      unfold Qe7
      rw [cond_false]; exact Xc8 p n hsm
    · rw [if_neg hd]; exact Xc8 p n hsm
  · rw [decide_eq_true (by simpa using hs), cond_true]; rfl
end Go.Sx

end
