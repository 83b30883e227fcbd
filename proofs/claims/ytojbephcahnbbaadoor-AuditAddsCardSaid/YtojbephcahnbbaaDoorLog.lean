/- The audit log in plain Lean. No condition. -/
import Derived.Test.YtojbephcahnbbaaDoorGl
set_option linter.unusedVariables false
set_option linter.unusedSimpArgs false
namespace Go.Proofs.YtojbephcahnbbaaDoor
open Go Go.Proofs.GP
theorem decDigits_len : ∀ (k u : Nat), u < 10 ^ (k + 1) → (Lib.decDigits u).length ≤ k + 1
  | 0, u, h => by
    rw [Lib.decDigits, dif_pos (by simpa using h)]; simp
  | k + 1, u, h => by
    rw [Lib.decDigits]
    split
    · simp
    · have := decDigits_len k (u / 10) (by rw [Nat.pow_succ] at h; omega)
      rw [List.length_append, List.length_singleton]; omega
theorem itoa_len (n : Int) (h0 : -9223372036854775808 ≤ n) (h1 : n ≤ 9223372036854775807) : (Lib.itoa n).length ≤ 20 := by
  unfold Lib.itoa
  split
  · have := decDigits_len 18 n.natAbs (by omega)
    rw [List.length_cons]; omega
  · have := decDigits_len 18 n.toNat (by omega)
    omega
def line (a : Int) (t : List UInt8) : List UInt8 := Lib.itoa a ++ [32] ++ t
def nextE (e : Ent) (a : Int) (t : List UInt8) : Ent × Int :=
  if a < e.at_ ∨ 1099511627776 < a then (Ent.zero, 2) else if 65536 < t.length then (Ent.zero, 3) else (⟨a, t, chain e.sum (line a t)⟩, 0)
theorem next_2 (e : Ent) (a : Int) (t : List UInt8) (h : a < e.at_ ∨ 1099511627776 < a) : nextE e a t = (Ent.zero, 2) := if_pos h
theorem next_3 (e : Ent) (a : Int) (t : List UInt8) (h : ¬ (a < e.at_ ∨ 1099511627776 < a)) (h2 : 65536 < t.length) : nextE e a t = (Ent.zero, 3) := by unfold nextE; rw [if_neg h, if_pos h2]
theorem next_0 (e : Ent) (a : Int) (t : List UInt8) (h : ¬ (a < e.at_ ∨ 1099511627776 < a)) (h2 : ¬ 65536 < t.length) : nextE e a t = (⟨a, t, chain e.sum (line a t)⟩, 0) := by unfold nextE; rw [if_neg h, if_neg h2]
/-- A record asked for: the record, the error, the records then. -/
def addL (es : List Ent) (a : Int) (t : List UInt8) : Ent × Int × List Ent :=
  if (nextE (lastE es) a t).2 ≠ 0 then ((nextE (lastE es) a t).1, (nextE (lastE es) a t).2, es) else if 4096 ≤ es.length then (Ent.zero, 3, es) else ((nextE (lastE es) a t).1, 0, es ++ [(nextE (lastE es) a t).1])
theorem add_e (es : List Ent) (a : Int) (t : List UInt8) (h : (nextE (lastE es) a t).2 ≠ 0) : addL es a t = ((nextE (lastE es) a t).1, (nextE (lastE es) a t).2, es) := if_pos h
theorem add_f (es : List Ent) (a : Int) (t : List UInt8) (h : (nextE (lastE es) a t).2 = 0) (h2 : 4096 ≤ es.length) : addL es a t = (Ent.zero, 3, es) := by unfold addL; rw [if_neg (by simpa using h), if_pos h2]
theorem add_k (es : List Ent) (a : Int) (t : List UInt8) (h : (nextE (lastE es) a t).2 = 0) (h2 : ¬ 4096 ≤ es.length) : addL es a t = ((nextE (lastE es) a t).1, 0, es ++ [(nextE (lastE es) a t).1]) := by unfold addL; rw [if_neg (by simpa using h), if_neg h2]
theorem add_len (es : List Ent) (a : Int) (t : List UInt8) (h : es.length ≤ 4096) : (addL es a t).2.2.length ≤ 4096 := by
  by_cases h1 : (nextE (lastE es) a t).2 = 0
  · by_cases h2 : 4096 ≤ es.length
    · rw [add_f es a t h1 h2]; exact h
    · rw [add_k es a t h1 h2]; simp; omega
  · rw [add_e es a t h1]; exact h
end Go.Proofs.YtojbephcahnbbaaDoor
