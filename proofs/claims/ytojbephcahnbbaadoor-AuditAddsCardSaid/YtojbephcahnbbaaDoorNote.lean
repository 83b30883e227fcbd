/- What is added, in plain Lean; facts on adding. No condition. -/
import Derived.Test.YtojbephcahnbbaaDoorDec2
set_option linter.unusedVariables false
set_option linter.unusedSimpArgs false
namespace Go.Proofs.YtojbephcahnbbaaDoor
open Go Go.Proofs.GP
structure Note where
  a : Int
  t : List UInt8
def Note.zero : Note := ⟨0, []⟩
def Note.cells (x : Note) : List Value := [.int .i64 x.a, .string ⟨x.t.toArray⟩]
theorem Note.len (x : Note) : x.cells.length = 2 := rfl
def Note.ok (x : Note) : Prop := -9223372036854775808 ≤ x.a ∧ x.a ≤ 9223372036854775807 ∧ x.t.length ≤ 9223372036854775807
def notes (l : List Note) : List Value := l.flatMap Note.cells
theorem notes_len (l : List Note) : (notes l).length = l.length * 2 := flat_len _ _ Note.len l
theorem notes_k (l : List Note) (i k : Nat) (hi : i < l.length) (hk : k < 2) : (notes l)[i * 2 + k]? = (l.getD i Note.zero).cells[k]? := by
  have h : ((notes l).drop (i * 2)).take 2 = l[i].cells := flat_at _ _ Note.len l i hi
  rw [List.getD_eq_getElem?_getD, List.getElem?_eq_getElem hi]
  show _ = (l[i]).cells[k]?
  rw [← h, List.getElem?_take, if_pos hk, List.getElem?_drop]
theorem notes_0 (l : List Note) (i : Nat) (hi : i < l.length) {a : Int} (ha : a = (l.getD i Note.zero).a) : (notes l)[i * 2]? = some (.int .i64 a) := by subst ha; exact notes_k l i 0 hi (by decide)
theorem notes_1 (l : List Note) (i : Nat) (hi : i < l.length) {t : List UInt8} (ht : t = (l.getD i Note.zero).t) : (notes l)[i * 2 + 1]? = some (.string ⟨t.toArray⟩) := by subst ht; exact notes_k l i 1 hi (by decide)
theorem note_ok {l : List Note} (h : ∀ x, x ∈ l → x.ok) (i : Nat) (hi : i < l.length) : (l.getD i Note.zero).ok := by
  rw [List.getD_eq_getElem?_getD, List.getElem?_eq_getElem hi]; exact h _ (List.getElem_mem hi)
theorem add_ok (es : List Ent) (a : Int) (t : List UInt8) (h : (addL es a t).2.1 = 0) : (addL es a t).2.2 = es ++ [(addL es a t).1] := by
  by_cases h1 : (nextE (lastE es) a t).2 = 0
  · by_cases h2 : 4096 ≤ es.length
    · rw [add_f es a t h1 h2] at h; exact absurd h (show ¬ ((3 : Int) = 0) by decide)
    · rw [add_k es a t h1 h2]
  · rw [add_e es a t h1] at h; exact absurd h h1
theorem add_no (es : List Ent) (a : Int) (t : List UInt8) (h : ¬ (addL es a t).2.1 = 0) : (addL es a t).2.2 = es := by
  by_cases h1 : (nextE (lastE es) a t).2 = 0
  · by_cases h2 : 4096 ≤ es.length
    · rw [add_f es a t h1 h2]
    · rw [add_k es a t h1 h2] at h; exact absurd rfl h
  · rw [add_e es a t h1]
theorem lastE_app (es : List Ent) (x : Ent) : lastE (es ++ [x]) = x := by simp [lastE]
theorem next_at (e : Ent) (a : Int) (t : List UInt8) (h : (nextE e a t).2 = 0) : (nextE e a t).1.at_ = a ∧ e.at_ ≤ a := by
  by_cases h1 : a < e.at_ ∨ 1099511627776 < a
  · rw [next_2 e a t h1] at h; exact absurd h (by decide)
  · by_cases h2 : 65536 < t.length
    · rw [next_3 e a t h1 h2] at h; exact absurd h (by decide)
    · rw [next_0 e a t h1 h2]; exact ⟨rfl, by omega⟩
theorem add_at (es : List Ent) (a : Int) (t : List UInt8) (h : 0 ≤ (lastE es).at_) : 0 ≤ (lastE (addL es a t).2.2).at_ := by
  by_cases h1 : (nextE (lastE es) a t).2 = 0
  · by_cases h2 : 4096 ≤ es.length
    · rw [add_f es a t h1 h2]; exact h
    · have := next_at _ a t h1
      rw [add_k es a t h1 h2]
      show 0 ≤ (lastE (es ++ [(nextE (lastE es) a t).1])).at_
      rw [lastE_app]; omega
  · rw [add_e es a t h1]; exact h
theorem lastE_nil (es : List Ent) (h : es.length = 0) : lastE es = Ent.zero := by rw [List.eq_nil_of_length_eq_zero h]; rfl
end Go.Proofs.YtojbephcahnbbaaDoor
