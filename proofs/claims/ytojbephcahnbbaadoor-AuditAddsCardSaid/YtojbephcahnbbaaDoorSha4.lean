/- The reference digest in plain Lean, and that it is the digest. No condition. -/
import Derived.Test.YtojbephcahnbbaaDoorSha3
set_option linter.unusedVariables false
set_option linter.unusedSimpArgs false
namespace Go.Proofs.YtojbephcahnbbaaDoor
open Go Go.Proofs.GP
def mixR (ws : List B32) (t : Nat) : B32 :=
  ((((ror (ws.getD (t - 2) 0) 17 ^^^ ror (ws.getD (t - 2) 0) 19) ^^^ ws.getD (t - 2) 0 >>> 10) + ws.getD (t - 7) 0) + ((ror (ws.getD (t - 15) 0) 7 ^^^ ror (ws.getD (t - 15) 0) 18) ^^^ ws.getD (t - 15) 0 >>> 3)) + ws.getD (t - 16) 0
theorem add4 (a b c d : B32) : ((a + b) + c) + d = ((d + b) + c) + a := by
  ac_rfl
theorem mixR_eq (ws : List B32) (t : Nat) : mixR ws t = mixW ws t := add4 _ _ _ _
theorem take_succ8 (s : S8) (j : Nat) (h : j < 8) : s.list.take (j + 1) = s.list.take j ++ [s.list.getD j 0] := by
  have : j = 0 ∨ j = 1 ∨ j = 2 ∨ j = 3 ∨ j = 4 ∨ j = 5 ∨ j = 6 ∨ j = 7 := by omega
  rcases this with rfl | rfl | rfl | rfl | rfl | rfl | rfl | rfl <;> rfl
theorem sum8_at (s v : S8) (j : Nat) (h : j < 8) : (sum8 s v).list.getD j 0 = s.list.getD j 0 + v.list.getD j 0 := by
  have : j = 0 ∨ j = 1 ∨ j = 2 ∨ j = 3 ∨ j = 4 ∨ j = 5 ∨ j = 6 ∨ j = 7 := by omega
  rcases this with rfl | rfl | rfl | rfl | rfl | rfl | rfl | rfl <;> rfl
end Go.Proofs.YtojbephcahnbbaaDoor
