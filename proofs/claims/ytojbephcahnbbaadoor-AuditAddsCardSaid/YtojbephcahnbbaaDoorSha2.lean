/- The digest of layer 4, in plain Lean, second part: blocks, padding, the digest's bytes. No condition. -/
import Derived.Test.YtojbephcahnbbaaDoorSha
import Derived.Test.YtojbephcahnbbaaDoorD
set_option linter.unusedVariables false
set_option linter.unusedSimpArgs false
namespace Go.Proofs.YtojbephcahnbbaaDoor
open Go Go.Proofs.GP
def proc : Nat → S8 → List UInt8 → S8 × List UInt8
  | 0, s, r => (s, r)
  | k + 1, s, r => if 64 ≤ r.length then proc k (turnS s (r.take 64)) (r.drop 64) else (s, r)
def procS (s : S8) (r : List UInt8) : S8 × List UInt8 := proc r.length s r
theorem proc_enough : ∀ (k j : Nat) (s : S8) (r : List UInt8), r.length ≤ k → r.length ≤ j → proc k s r = proc j s r
  | 0, j, s, r, h, _ => by
    have : r.length = 0 := by omega
    cases j with
    | zero => rfl
    | succ j => simp [proc, this]
  | k + 1, 0, s, r, _, h => by
    have : r.length = 0 := by omega
    simp [proc, this]
  | k + 1, j + 1, s, r, h, h' => by
    simp only [proc]
    by_cases hr : 64 ≤ r.length
    · rw [if_pos hr, if_pos hr]
      exact proc_enough k j _ _ (by rw [List.length_drop]; omega) (by rw [List.length_drop]; omega)
    · rw [if_neg hr, if_neg hr]
theorem procS_step (s : S8) (r : List UInt8) (h : 64 ≤ r.length) : procS (turnS s (r.take 64)) (r.drop 64) = procS s r := by
  unfold procS
  obtain ⟨k, hk⟩ : ∃ k, r.length = k + 1 := ⟨r.length - 1, by omega⟩
  rw [hk]
  simp only [proc]
  rw [if_pos h]
  exact proc_enough _ _ _ _ (Nat.le_refl _) (by rw [List.length_drop]; omega)
theorem procS_done (s : S8) (r : List UInt8) (h : ¬ 64 ≤ r.length) : procS s r = (s, r) := by
  unfold procS
  cases hk : r.length with
  | zero => rfl
  | succ k => simp only [proc]; rw [if_neg h]
theorem proc_len : ∀ (k : Nat) (s : S8) (r : List UInt8), (proc k s r).2.length ≤ r.length
  | 0, s, r => Nat.le_refl _
  | k + 1, s, r => by
    simp only [proc]
    split
    · have := proc_len k (turnS s (r.take 64)) (r.drop 64)
      rw [List.length_drop] at this; omega
    · exact Nat.le_refl _
/-- A digest of what was added so far. -/
structure Dg where
  s : S8
  rest : List UInt8
  n : BitVec 64
def init8 : S8 := ⟨0x6a09e667, 0xbb67ae85, 0x3c6ef372, 0xa54ff53a, 0x510e527f, 0x9b05688c, 0x1f83d9ab, 0x5be0cd19⟩
def Dg.new : Dg := ⟨init8, [], 0⟩
def Dg.add (d : Dg) (b : List UInt8) : Dg := ⟨(procS d.s (d.rest ++ b)).1, (procS d.s (d.rest ++ b)).2, d.n + n64 b.length⟩
theorem Dg.add_rest (d : Dg) (b : List UInt8) : (d.add b).rest.length ≤ d.rest.length + b.length := by
  show (proc (d.rest ++ b).length d.s (d.rest ++ b)).2.length ≤ _
  exact Nat.le_trans (proc_len _ _ _) (by simp)
def padZ (r : List UInt8) : List UInt8 := r ++ List.replicate ((120 - r.length % 64) % 64) 0
theorem padZ_step (r : List UInt8) (h : r.length % 64 ≠ 56) : padZ (r ++ [0]) = padZ r := by
  unfold padZ
  have : (120 - r.length % 64) % 64 = (120 - (r.length + 1) % 64) % 64 + 1 := by omega
  rw [this, List.length_append, List.length_singleton, List.replicate_succ, List.append_assoc]
  rfl
theorem padZ_done (r : List UInt8) (h : r.length % 64 = 56) : padZ r = r := by
  unfold padZ
  rw [h]; simp
theorem padZ_len (r : List UInt8) : (padZ r).length ≤ r.length + 63 := by
  unfold padZ
  rw [List.length_append, List.length_replicate]; omega
def lenB (n : BitVec 64) : List UInt8 := [low64 ((n * 8#64) >>> 56), low64 ((n * 8#64) >>> 48), low64 ((n * 8#64) >>> 40), low64 ((n * 8#64) >>> 32), low64 ((n * 8#64) >>> 24), low64 ((n * 8#64) >>> 16), low64 ((n * 8#64) >>> 8), low64 ((n * 8#64) >>> 0)]
theorem lenB_take (n : BitVec 64) (i : Nat) (h : i < 8) : (lenB n).take (7 - i) ++ [low64 ((n * 8#64) >>> (8 * i))] = (lenB n).take (8 - i) := by
  have : i = 0 ∨ i = 1 ∨ i = 2 ∨ i = 3 ∨ i = 4 ∨ i = 5 ∨ i = 6 ∨ i = 7 := by omega
  rcases this with rfl | rfl | rfl | rfl | rfl | rfl | rfl | rfl <;> rfl
theorem lenB_add (n : BitVec 64) (k : Nat) (h : k < 8) : (lenB n).take k ++ [low64 ((n * 8#64) >>> (8 * (7 - k)))] = (lenB n).take (k + 1) := by
  have := lenB_take n (7 - k) (by omega)
  rwa [show 7 - (7 - k) = k by omega, show 8 - (7 - k) = k + 1 by omega] at this
def lenb (n : BitVec 64) (k : Nat) : UInt8 := low64 ((n * 8#64) >>> (8 * (7 - k)))
theorem lenB_all (n : BitVec 64) : (lenB n).take 8 = lenB n := rfl
def w4 (w : B32) : List UInt8 := [low32 (w >>> 24), low32 (w >>> 16), low32 (w >>> 8), low32 w]
def digB (s : S8) : List UInt8 := w4 s.a ++ w4 s.c ++ w4 s.d ++ w4 s.e ++ w4 s.f ++ w4 s.g ++ w4 s.h ++ w4 s.i
/-- the first i words' bytes laid -/
def digP (s : S8) (i : Nat) : List UInt8 := (digB s).take (4 * i) ++ List.replicate (32 - 4 * i) 0
theorem digP_len (s : S8) (i : Nat) (h : i ≤ 8) : (digP s i).length = 32 := by
  have h1 : (digB s).length = 32 := rfl
  simp only [digP, List.length_append, List.length_take, List.length_replicate, h1]; omega
theorem digP_step (s : S8) (i : Nat) (h : i < 8) : ((((digP s i).set (4 * i) (low32 (s.list.getD i 0 >>> 24))).set (4 * i + 1) (low32 (s.list.getD i 0 >>> 16))).set (4 * i + 2) (low32 (s.list.getD i 0 >>> 8))).set (4 * i + 3) (low32 (s.list.getD i 0)) = digP s (i + 1) := by
  have : i = 0 ∨ i = 1 ∨ i = 2 ∨ i = 3 ∨ i = 4 ∨ i = 5 ∨ i = 6 ∨ i = 7 := by omega
  rcases this with rfl | rfl | rfl | rfl | rfl | rfl | rfl | rfl <;> rfl
theorem digP_end (s : S8) : digP s 8 = digB s := rfl
def Dg.all (d : Dg) : List UInt8 := padZ (d.rest ++ [0x80]) ++ lenB d.n
def Dg.sum (d : Dg) : Dig := ⟨digB (procS d.s d.all).1, rfl⟩
def len4 (n : Int) : List UInt8 := [lowI (n / 16777216), lowI (n / 65536), lowI (n / 256), lowI n]
/-- A link's digest. -/
def chain (last : Dig) (text : List UInt8) : Dig := (((Dg.new.add last.l).add (len4 text.length)).add text).sum
theorem shrI24 (a : Int) (h : 0 ≤ a) : a.fdiv (2 ^ (min (24 : Int).toNat IntKind.i64.bits)) = a / 16777216 := by
  have : ((2 : Int) ^ (min (24 : Int).toNat IntKind.i64.bits)) = 16777216 := by decide
  rw [this, Int.fdiv_eq_ediv_of_nonneg _ (by decide)]
theorem shrI16 (a : Int) (h : 0 ≤ a) : a.fdiv (2 ^ (min (16 : Int).toNat IntKind.i64.bits)) = a / 65536 := by
  have : ((2 : Int) ^ (min (16 : Int).toNat IntKind.i64.bits)) = 65536 := by decide
  rw [this, Int.fdiv_eq_ediv_of_nonneg _ (by decide)]
theorem shrI8 (a : Int) (h : 0 ≤ a) : a.fdiv (2 ^ (min (8 : Int).toNat IntKind.i64.bits)) = a / 256 := by
  have : ((2 : Int) ^ (min (8 : Int).toNat IntKind.i64.bits)) = 256 := by decide
  rw [this, Int.fdiv_eq_ediv_of_nonneg _ (by decide)]
/-- What a digest's block holds. -/
def Dg.cells (d : Dg) (A : Option Addr) (c : Nat) : List Value := d.s.cells ++ [.slice A d.rest.length c, .int .u64 d.n.toNat, .bool true]
theorem pad_le (d r : List UInt8) (h : padZ r = padZ (d ++ [0x80])) : r.length ≤ d.length + 1 + 63 := by
  have h1 := congrArg List.length h
  have h2 := padZ_len (d ++ [0x80])
  have h3 : r.length ≤ (padZ r).length := by simp [padZ]
  rw [List.length_append, List.length_singleton] at h2
  omega
end Go.Proofs.YtojbephcahnbbaaDoor
