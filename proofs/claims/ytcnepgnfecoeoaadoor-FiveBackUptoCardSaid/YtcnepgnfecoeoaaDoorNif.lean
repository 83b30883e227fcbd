/- No interface value against one that is there. No condition. -/
import Derived.Test.YtcnepgnfecoeoaaDoorGMem4
set_option linter.unusedVariables false
namespace Go.Proofs.GP
open Go Go.RowKit
variable {P : Program} {env : Env} {w : World} {dst : Option Tmp} {ty : TypeId} {pos : String} {after : Array Edge} {gd : Option (Nat × Bool)}
theorem ein_ni {t u : TypeId} {ms : Array (String × TypeId)} {v : Value} (d : Nat) (ht : P.underlying t = some (.interface ms)) : (Op.equalIn (d + 1) t .nilIface (.iface u v)).run P w = .ok false w := by simp [Op.equalIn, run_und ht]
theorem y_ni {t u : TypeId} {ms : Array (String × TypeId)} {x y : Operand} {yt : TypeId} {v : Value} (ht : P.underlying t = some (.interface ms)) (hx : ev env x = some .nilIface) (hy : ev env y = some (.iface u v)) : Yld P env ⟨dst, .binOp .eql t x y yt, ty, pos, after, gd⟩ w (.bool false) :=
  y_bin hx hy (by unfold eqGuard; rfl) (run_eqlV rfl (ein_ni 9999 ht) rfl)
end Go.Proofs.GP
