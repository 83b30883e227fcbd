/- What layer 21's values are, in plain Lean: records, digests; their cells. No condition. -/
import Derived.Test.YtojbephcahnbbaaDoorGMem3
set_option linter.unusedVariables false
namespace Go.Proofs.YtojbephcahnbbaaDoor
open Go Go.Proofs.GP

/-- A digest: 32 bytes. -/
structure Dig where
  l : List UInt8
  h : l.length = 32
  deriving DecidableEq
def Dig.zero : Dig := ⟨List.replicate 32 0, by simp⟩
/-- A record. -/
structure Ent where
  at_ : Int
  text : List UInt8
  sum : Dig
  deriving DecidableEq
def Ent.zero : Ent := ⟨0, [], Dig.zero⟩
def Dig.cells (d : Dig) : List Value := d.l.map bv
theorem Dig.len (d : Dig) : d.cells.length = 32 := by simp [Dig.cells, d.h]
def Ent.cells (e : Ent) : List Value := [.int .i64 e.at_, .string ⟨e.text.toArray⟩] ++ e.sum.cells
theorem Ent.len (e : Ent) : e.cells.length = 34 := by simp [Ent.cells, Dig.len]
theorem flat_len {α : Type} (f : α → List Value) (k : Nat) (h : ∀ x, (f x).length = k) : ∀ l : List α, (l.flatMap f).length = l.length * k
  | [] => by simp
  | x :: l => by rw [List.flatMap_cons, List.length_append, h, flat_len f k h l, List.length_cons, Nat.add_mul]; omega
theorem flat_at {α : Type} (f : α → List Value) (k : Nat) (h : ∀ x, (f x).length = k) : ∀ (l : List α) (i : Nat) (hi : i < l.length), ((l.flatMap f).drop (i * k)).take k = f l[i]
  | x :: l, 0, hi => by simp [← h x]
  | x :: l, i + 1, hi => by
    have hd : (f x ++ l.flatMap f).drop ((i + 1) * k) = (l.flatMap f).drop (i * k) := by
      rw [show (i + 1) * k = (f x).length + i * k by rw [h x, Nat.add_mul]; omega, List.drop_append]
      simp
    rw [List.flatMap_cons, hd, flat_at f k h l i (by simpa using hi)]
    simp
def ents (l : List Ent) : List Value := l.flatMap Ent.cells
theorem ents_len (l : List Ent) : (ents l).length = l.length * 34 := flat_len _ _ Ent.len l
theorem ents_at (l : List Ent) (i : Nat) (hi : i < l.length) : ((ents l).drop (i * 34)).take 34 = l[i].cells := flat_at _ _ Ent.len l i hi
theorem ents_app (a b : List Ent) : ents (a ++ b) = ents a ++ ents b := by simp [ents]
theorem all_dig (d : Dig) : d.cells.all oneV = true := by simp [Dig.cells]
theorem all_ent (e : Ent) : e.cells.all oneV = true := by
  simp only [Ent.cells, List.all_append, all_dig]
  rfl
theorem all_ents (l : List Ent) : (ents l).all oneV = true := by
  induction l with
  | nil => rfl
  | cons a l ih => simp only [ents, List.flatMap_cons, List.all_append, all_ent, Bool.true_and]; exact ih
theorem zero_dig : Dig.zero.cells = [.int .u8 0, .int .u8 0, .int .u8 0, .int .u8 0, .int .u8 0, .int .u8 0, .int .u8 0, .int .u8 0, .int .u8 0, .int .u8 0, .int .u8 0, .int .u8 0, .int .u8 0, .int .u8 0, .int .u8 0, .int .u8 0, .int .u8 0, .int .u8 0, .int .u8 0, .int .u8 0, .int .u8 0, .int .u8 0, .int .u8 0, .int .u8 0, .int .u8 0, .int .u8 0, .int .u8 0, .int .u8 0, .int .u8 0, .int .u8 0, .int .u8 0, .int .u8 0] := rfl
/-- the record that the next one is chained to -/
def lastE (l : List Ent) : Ent := l.getLastD Ent.zero
theorem lastE_at (l : List Ent) (h : l.length - 1 < l.length) : lastE l = l[l.length - 1] := by
  unfold lastE
  rw [List.getLastD_eq_getLast?, List.getLast?_eq_getElem?, List.getElem?_eq_getElem h]
  rfl
theorem getD_eq (l : List Ent) (i : Nat) (hi : i < l.length) : l.getD i Ent.zero = l[i] := by
  rw [List.getD_eq_getElem?_getD, List.getElem?_eq_getElem hi]; rfl
theorem ents_w (l : List Ent) (i : Nat) (hi : i < l.length) : ((ents l).drop (i * 34)).take 34 = (l.getD i Ent.zero).cells := by rw [getD_eq l i hi]; exact ents_at l i hi
theorem lastE_w (l : List Ent) (h : l.length - 1 < l.length) : lastE l = l.getD (l.length - 1) Ent.zero := by rw [getD_eq l _ h]; exact lastE_at l h
theorem ents_k (l : List Ent) (i k : Nat) (hi : i < l.length) (hk : k < 34) : (ents l)[i * 34 + k]? = (l.getD i Ent.zero).cells[k]? := by
  have h := ents_w l i hi
  rw [← h, List.getElem?_take, if_pos hk, List.getElem?_drop]
theorem ents_0 (l : List Ent) (i : Nat) (hi : i < l.length) : (ents l)[i * 34]? = some (.int .i64 (l.getD i Ent.zero).at_) := ents_k l i 0 hi (by decide)
theorem ents_1 (l : List Ent) (i : Nat) (hi : i < l.length) : (ents l)[i * 34 + 1]? = some (.string ⟨(l.getD i Ent.zero).text.toArray⟩) := ents_k l i 1 hi (by decide)
theorem ents_2 (l : List Ent) (i : Nat) (hi : i < l.length) : ((ents l).drop (i * 34 + 2)).take 32 = (l.getD i Ent.zero).sum.cells := by
  have h := ents_w l i hi
  have e : (l.getD i Ent.zero).cells.drop 2 = (l.getD i Ent.zero).sum.cells := rfl
  rw [← e, ← h, List.drop_take, List.drop_drop]
end Go.Proofs.YtojbephcahnbbaaDoor
