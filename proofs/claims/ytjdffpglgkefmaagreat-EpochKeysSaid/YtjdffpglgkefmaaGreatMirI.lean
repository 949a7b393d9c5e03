/- Calls of closures walked in place: what comes behind the call is the callee's post. -/
import Derived.Test.YtjdffpglgkefmaaGreatMirH
set_option linter.unusedVariables false
namespace Go.Sx
open Go Go.RowKit

theorem sd_inl {P : Program} {n : Nat} {ops : Array Oper} {Q : Slots → World → Prop} {rest : List (Nat × Nat)} {i : Nat} {dst : Option Nat} {ty : TypeId} {pos : String} {af : Array Edge} {gu : Option (Nat × Bool)} {L : Slots} {w : World}
    {f : Nat} {fs cap : List Value} {x : Operand} {as : Array Operand} {at_ : Array TypeId} {vs : List Value} {fn : Func} {c : Code} (n' : Nat) (hf : P.funcs[f]? = some fn) (hi : ops[i]? = some ⟨dst, .call { callee := .value x, args := as, argTypes := at_ }, ty, pos, af, gu⟩)
    (hg : gd ops L ⟨dst, .call { callee := .value x, args := as, argTypes := at_ }, ty, pos, af, gu⟩ = some true) (hd : inN n dst = true) (hen : En P f) (hx : ev L x = some (.func (.func f) fs.toArray cap.toArray)) (hargs : evs L as.toList = some vs)
    (hb : fn.body = some c) (hn : fn.ntmps = n') (hl : Nat.ble (fs ++ vs ++ cap).length n' = true)
    (h : SW P none n' c (retQ P fn (fun v w' => SD P n ops Q (fun _ _ => True) (fun _ _ => false) rest (putL dst v L) w')) [] (argSlots 0 (fs ++ vs ++ cap)) w) : SD P n ops Q (fun _ _ => True) (fun _ _ => false) ((i, 0) :: rest) L w :=
  sd_ev hi hg hd (ev_callV hen hx hargs (calls_of_sw n' hf hb hn hl h)) fun v w' hR => hR
end Go.Sx
