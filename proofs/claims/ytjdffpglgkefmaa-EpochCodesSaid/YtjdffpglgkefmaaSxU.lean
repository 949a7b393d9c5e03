/- SX: the operations on uint64, said over BitVec 64; divisions. -/
import Derived.Test.YtjdffpglgkefmaaSxOps
import Derived.Test.YtjdffpglgkefmaaU64
set_option linter.unusedVariables false
set_option linter.unusedSimpArgs false
namespace Go.Sx
open Go Go.RowKit

section
variable {P : Program} {L : Slots} {w : World} {dst : Option Nat} {ty : TypeId} {pos : String} {af : Array Edge} {gu : Option (Nat × Bool)}
variable {x y : Operand} {t u : TypeId} {a b : BitVec 64} {n : Int}

theorem vv_eq {o : Oper} {v v' : Value} (h : VV P L o w v) (e : v = v') : VV P L o w v' := e ▸ h
theorem vv_uadd (hx : ev L x = some (wv a)) (hy : ev L y = some (wv b)) : VV P L ⟨dst, .binOp .add t x y u, ty, pos, af, gu⟩ w (wv (a + b)) := vv_eq (vv_add hx hy) (by rw [u_add])
theorem vv_usub (hx : ev L x = some (wv a)) (hy : ev L y = some (wv b)) : VV P L ⟨dst, .binOp .sub t x y u, ty, pos, af, gu⟩ w (wv (a - b)) := vv_eq (vv_sub hx hy) (by rw [u_sub])
theorem vv_umul (hx : ev L x = some (wv a)) (hy : ev L y = some (wv b)) : VV P L ⟨dst, .binOp .mul t x y u, ty, pos, af, gu⟩ w (wv (a * b)) := vv_eq (vv_mul hx hy) (by rw [u_mul])
theorem vv_uxor (hx : ev L x = some (wv a)) (hy : ev L y = some (wv b)) : VV P L ⟨dst, .binOp .xor t x y u, ty, pos, af, gu⟩ w (wv (a ^^^ b)) := vv_eq (vv_bits (by simp) hx hy) (by rw [u_xor])
theorem vv_uand (hx : ev L x = some (wv a)) (hy : ev L y = some (wv b)) : VV P L ⟨dst, .binOp .and t x y u, ty, pos, af, gu⟩ w (wv (a &&& b)) := vv_eq (vv_bits (by simp) hx hy) (by rw [u_and])
theorem vv_uor (hx : ev L x = some (wv a)) (hy : ev L y = some (wv b)) : VV P L ⟨dst, .binOp .or t x y u, ty, pos, af, gu⟩ w (wv (a ||| b)) := vv_eq (vv_bits (by simp) hx hy) (by rw [u_or])
/-- with a constant on the right ¦ the left -/
theorem evC {n : Int} (hy : ev L y = some (.int .u64 n)) (h0 : 0 ≤ n) (h1 : n ≤ 18446744073709551615) : ev L y = some (wv (wd n)) := by rw [hy]; show _ = some (Value.int .u64 (un (wd n))); rw [un_wd n h0 h1]
theorem vv_ushl {yk : IntKind} (hx : ev L x = some (wv a)) (hy : ev L y = some (.int yk n)) (h0 : 0 ≤ n) : VV P L ⟨dst, .binOp .shl t x y u, ty, pos, af, gu⟩ w (wv (a <<< n.toNat)) := by
  refine vv_eq (vv_shl hx hy h0) ?_
  show Value.int .u64 (IntKind.u64.wrap (un a * 2 ^ min n.toNat 64)) = _
  rw [u_shl]
  congr 2
  rcases Nat.le_total n.toNat 64 with h | h
  · rw [Nat.min_eq_left h]
  · rw [Nat.min_eq_right h, BitVec.shiftLeft_eq_zero h, BitVec.shiftLeft_eq_zero (Nat.le_refl _)]
theorem vv_ushr {yk : IntKind} (hx : ev L x = some (wv a)) (hy : ev L y = some (.int yk n)) (h0 : 0 ≤ n) : VV P L ⟨dst, .binOp .shr t x y u, ty, pos, af, gu⟩ w (wv (a >>> n.toNat)) := by
  refine vv_eq (vv_shr hx hy h0) ?_
  show Value.int .u64 (un a / 2 ^ min n.toNat 64) = _
  rw [u_shr]
  congr 2
  rcases Nat.le_total n.toNat 64 with h | h
  · rw [Nat.min_eq_left h]
  · rw [Nat.min_eq_right h, BitVec.ushiftRight_eq_zero h, BitVec.ushiftRight_eq_zero (Nat.le_refl _)]
theorem vv_convUU {s d : TypeId} (hc : CV P s d .u64) (hx : ev L x = some (wv a)) : VV P L ⟨dst, .convert s d x, ty, pos, af, gu⟩ w (wv a) := by
  refine vv_eq (vv_conv hc hx) ?_
  have h1 := un_nonneg a; have h2 := un_lt a
  rw [IntKind.wrap_u64, Int.emod_eq_of_lt h1 h2]
theorem vv_convIU {s d : TypeId} {q : IntKind} (hc : CV P s d .u64) (hx : ev L x = some (.int q n)) (h0 : 0 ≤ n) (h1 : n ≤ 18446744073709551615) : VV P L ⟨dst, .convert s d x, ty, pos, af, gu⟩ w (wv (wd n)) := by
  refine vv_eq (vv_conv hc hx) ?_
  show _ = Value.int .u64 (un (wd n))
  rw [IntKind.wrap_u64, Int.emod_eq_of_lt h0 (by omega), un_wd n h0 h1]
theorem vv_convUB {s d : TypeId} (hc : CV P s d .u8) (hx : ev L x = some (wv a)) : VV P L ⟨dst, .convert s d x, ty, pos, af, gu⟩ w (.int .u8 (un a % 256)) := by
  refine vv_eq (vv_conv hc hx) ?_
  simp [IntKind.wrap, IntKind.bits, IntKind.signed]
theorem vv_quo {k : IntKind} {c d : Int} (hx : ev L x = some (.int k c)) (hy : ev L y = some (.int k d)) (h0 : 0 ≤ c) (h1 : 0 < d) (hw : k.wrap (c / d) = c / d) : VV P L ⟨dst, .binOp .quo t x y u, ty, pos, af, gu⟩ w (.int k (c / d)) := fun ρ hρ => by
  have hd : d ≠ 0 := by omega
  simp [execOp, hρ _ _ hx, hρ _ _ hy, go_sem, Op.intDiv, hd, Int.tdiv_eq_ediv_of_nonneg h0, hw]
theorem vv_rem {k : IntKind} {c d : Int} (hx : ev L x = some (.int k c)) (hy : ev L y = some (.int k d)) (h0 : 0 ≤ c) (h1 : 0 < d) : VV P L ⟨dst, .binOp .rem t x y u, ty, pos, af, gu⟩ w (.int k (c % d)) := fun ρ hρ => by
  have hd : d ≠ 0 := by omega
  simp [execOp, hρ _ _ hx, hρ _ _ hy, go_sem, Op.intDiv, hd, Int.tmod_eq_emod_of_nonneg h0]
end
section
variable {P : Program} {L : Slots} {w : World} {dst : Option Nat} {ty : TypeId} {pos : String} {af : Array Edge} {gu : Option (Nat × Bool)} {x y : Operand} {t : TypeId}
theorem vv_ixStr {s : ByteArray} {k : IntKind} {i : Int} {c : UInt8} (hu : P.underlying t = some .string) (hx : ev L x = some (.string s)) (hy : ev L y = some (.int k i)) (h0 : 0 ≤ i) (hc : s[i.toNat]? = some c) : VV P L ⟨dst, .index t x y, ty, pos, af, gu⟩ w (.int .u8 c.toNat) := fun ρ hρ => by
  simp [execOp, hρ _ _ hx, hρ _ _ hy, Instr.index, run_underlying hu, asIntOf, h0, hc, go_sem]
theorem vv_convB {s d : TypeId} {q : IntKind} {a : Int} (hc : CV P s d .u8) (hx : ev L x = some (.int q a)) (h0 : 0 ≤ a) (h1 : a < 256) : VV P L ⟨dst, .convert s d x, ty, pos, af, gu⟩ w (.int .u8 a) := by
  refine vv_eq (vv_conv hc hx) ?_
  have : IntKind.u8.wrap a = a % 256 := by simp [IntKind.wrap, IntKind.bits, IntKind.signed]
  rw [this, Int.emod_eq_of_lt h0 h1]
theorem vv_ushrQ {a : BitVec 64} {u : TypeId} (hx : ev L x = some (wv a)) (hy : ev L y = some (.int .u64 256)) : VV P L ⟨dst, .binOp .quo t x y u, ty, pos, af, gu⟩ w (wv (a >>> 8)) := by
  have h1 := un_nonneg a
  have h2 := un_le a
  refine vv_eq (vv_quo hx hy h1 (by decide) ?_) ?_
  · rw [IntKind.wrap_u64]; omega
  · show Value.int .u64 (un a / 256) = Value.int .u64 (un (a >>> 8))
    rw [← u_shr]; rfl
/-- an integer from 0 on below 2^63: shifted to the right by a constant -/
theorem vv_shrN {k yk : IntKind} {a m : Int} {n : Nat} (hx : ev L x = some (.int k a)) (hy : ev L y = some (.int yk (n : Int))) (hm : ((2 ^ n : Nat) : Int) = m) (hn : n ≤ k.bits) {u : TypeId} : VV P L ⟨dst, .binOp .shr t x y u, ty, pos, af, gu⟩ w (.int k (a / m)) := by
  refine vv_eq (vv_shr hx hy (by omega)) ?_
  rw [show (n : Int).toNat = n from by omega, Nat.min_eq_left hn, ← hm]
  norm_cast
end
def plOK (P : Program) : List Field → List (Nat × Nat) → Prop
  | [], [] => True
  | f :: fs, p :: ps => f.offset = p.1 ∧ Siz P f.type p.2 ∧ plOK P fs ps
  | _, _ => False
theorem run_places {P : Program} : ∀ (fs : List Field) (ps : List (Nat × Nat)) (w : World), plOK P fs ps →
    (fs.mapM fun f => (Functor.map (Prod.mk f.offset) (sizeOf f.type) : Sem (Nat × Nat))).run P w = .ok ps w
  | [], [], w, _ => rfl
  | f :: fs, p :: ps, w, ⟨h1, h2, h3⟩ => by
    have := run_places fs ps w h3
    simp [List.mapM_cons, h2 w, this, h1]
  | [], _ :: _, _, h => h.elim
  | _ :: _, [], _, h => h.elim
theorem bs_mk {P : Program} {t : TypeId} {fs : Array Field} {ps : List (Nat × Nat)} {z : List Value} (hu : P.underlying t = some (.struct fs)) (hz : ZV P t (.agg z.toArray)) (hp : plOK P fs.toList ps) : BS P t (fun i => ps[i]?) z := fun parts w cells hc=>by
  have h := run_places fs.toList ps w hp
  have e : (fs.mapM fun f => (do pure (f.offset, ← sizeOf f.type) : Sem (Nat × Nat))).run P w = .ok ps.toArray w := by
    rw [Array.mapM_eq_mapM_toList]; simp [h]
  simp only [Instr.build, Sem.run_bind, hz w, Result.andThen, run_underlying hu, e, Value.cells]
  simp only [List.getElem?_toArray]
  rw [hc]
theorem not_bt {c : Bool} (h : (!c) = true) : c = false := by cases c <;> simp_all
theorem not_bf {c : Bool} (h : (!c) = false) : c = true := by cases c <;> simp_all
theorem f1_mk {P : Program} {s f k : Nat} (h : ∀ (cs : Array Value) w, (Instr.field s (.agg cs) f).run P w = (match cs[k]? with | some v => (pure v : Sem Value) | none => match (Instr.field s (.agg #[]) f).run P w with|.halt h _=>.halt h|.ok v _=>pure v).run P w) : F1 P s f k := fun cs w v hv => by
  rw [h cs w, hv]; rfl
end Go.Sx
