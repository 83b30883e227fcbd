/- The reference numeral in plain Lean. No condition. -/
import Derived.Test.YtojbephcahnbbaaDoorLog
import Derived.Test.YtojbephcahnbbaaDoorSha5
set_option linter.unusedVariables false
set_option linter.unusedSimpArgs false
namespace Go.Proofs.YtojbephcahnbbaaDoor
open Go Go.Proofs.GP
def Half (N m : Nat) (s : List UInt8) : Prop := (0 < m → Lib.decDigits m ++ s = Lib.decDigits N) ∧ (m = 0 → s = Lib.decDigits N)
theorem half_start (N : Nat) (h : 0 < N) : Half N N [] := ⟨fun _ => by simp, fun e => by omega⟩
def dgt (m : Nat) : UInt8 := lowI (48 + (m : Int) % 10)
theorem dgt_eq (m : Nat) : dgt m = UInt8.ofNat (48 + m % 10) := by
  unfold dgt lowI
  congr 1
  omega
theorem half_step (N m : Nat) (s : List UInt8) (h : Half N m s) (hm : 0 < m) : Half N (m / 10) ([dgt m] ++ s) := by
  have h1 := h.1 hm
  rw [Lib.decDigits] at h1
  constructor
  · intro hp
    rw [dif_neg (by omega)] at h1
    rw [dgt_eq, ← h1, List.append_assoc]
  · intro h0
    rw [dif_pos (by omega)] at h1
    rw [dgt_eq, ← h1, show m % 10 = m by omega]
theorem itoa_nat (N : Nat) : Lib.itoa (N : Int) = Lib.decDigits N := by
  unfold Lib.itoa
  rw [if_neg (by omega)]
  rfl
theorem half_end (N : Nat) (s : List UInt8) (h : Half N 0 s) : s = Lib.itoa (N : Int) := by rw [itoa_nat]; exact h.2 rfl
theorem itoa_zero : Lib.itoa ((0 : Nat) : Int) = [48] := by
  rw [itoa_nat, Lib.decDigits, dif_pos (by decide)]; rfl
theorem half_len (N m : Nat) (s : List UInt8) (h : Half N m s) (hN : N ≤ 9223372036854775807) : s.length ≤ 20 := by
  have h1 := itoa_len (N : Int) (by omega) (by omega)
  rw [itoa_nat] at h1
  by_cases hm : 0 < m
  · have := congrArg List.length (h.1 hm); rw [List.length_append] at this; omega
  · rw [h.2 (by omega)]; exact h1
theorem chain_flat (last : Dig) (text : List UInt8) (p q r : Part) (h1 : p.b = last.l) (h2 : q.b = len4 text.length) (h3 : r.b = text) : refSum (flat [p, q, r]) = chain last text := by
  rw [← sum_ref, chain_adds last text p q r h1 h2 h3]
end Go.Proofs.YtojbephcahnbbaaDoor
