/- The digest of layer 4, in plain Lean, as the program reckons it. No condition. -/
import Derived.Test.YtojbephcahnbbaaDoorGMem3
set_option linter.unusedVariables false
set_option linter.unusedSimpArgs false
namespace Go.Proofs.YtojbephcahnbbaaDoor
open Go Go.Proofs.GP
abbrev B32 := BitVec 32
def ror (x : B32) (n : Nat) : B32 := x >>> n ||| x <<< (32 - n)
def wordAt (b : List UInt8) (t : Nat) : B32 := ((b32 (b.getD (4 * t) 0) <<< 24 ||| b32 (b.getD (4 * t + 1) 0) <<< 16) ||| b32 (b.getD (4 * t + 2) 0) <<< 8) ||| b32 (b.getD (4 * t + 3) 0)
def mixW (ws : List B32) (t : Nat) : B32 :=
  ((ws.getD (t - 16) 0 + ws.getD (t - 7) 0) + ((ror (ws.getD (t - 15) 0) 7 ^^^ ror (ws.getD (t - 15) 0) 18) ^^^ ws.getD (t - 15) 0 >>> 3)) + ((ror (ws.getD (t - 2) 0) 17 ^^^ ror (ws.getD (t - 2) 0) 19) ^^^ ws.getD (t - 2) 0 >>> 10)
def sched (b : List UInt8) : Nat → List B32
  | 0 => List.replicate 64 0
  | t + 1 => (sched b t).set t (if t < 16 then wordAt b t else mixW (sched b t) t)
theorem sched_len (b : List UInt8) (t : Nat) : (sched b t).length = 64 := by
  induction t with
  | zero => simp [sched]
  | succ t ih => simp [sched, ih]
theorem sched_lt (b : List UInt8) (t : Nat) (h : t < 16) : sched b (t + 1) = (sched b t).set t (wordAt b t) := by simp [sched, h]
theorem sched_ge (b : List UInt8) (t : Nat) (h : ¬ t < 16) : sched b (t + 1) = (sched b t).set t (mixW (sched b t) t) := by simp [sched, h]
def roots : List B32 := [
    0x428a2f98, 0x71374491, 0xb5c0fbcf, 0xe9b5dba5, 0x3956c25b, 0x59f111f1, 0x923f82a4, 0xab1c5ed5,
    0xd807aa98, 0x12835b01, 0x243185be, 0x550c7dc3, 0x72be5d74, 0x80deb1fe, 0x9bdc06a7, 0xc19bf174,
    0xe49b69c1, 0xefbe4786, 0x0fc19dc6, 0x240ca1cc, 0x2de92c6f, 0x4a7484aa, 0x5cb0a9dc, 0x76f988da,
    0x983e5152, 0xa831c66d, 0xb00327c8, 0xbf597fc7, 0xc6e00bf3, 0xd5a79147, 0x06ca6351, 0x14292967,
    0x27b70a85, 0x2e1b2138, 0x4d2c6dfc, 0x53380d13, 0x650a7354, 0x766a0abb, 0x81c2c92e, 0x92722c85,
    0xa2bfe8a1, 0xa81a664b, 0xc24b8b70, 0xc76c51a3, 0xd192e819, 0xd6990624, 0xf40e3585, 0x106aa070,
    0x19a4c116, 0x1e376c08, 0x2748774c, 0x34b0bcb5, 0x391c0cb3, 0x4ed8aa4a, 0x5b9cca4f, 0x682e6ff3,
    0x748f82ee, 0x78a5636f, 0x84c87814, 0x8cc70208, 0x90befffa, 0xa4506ceb, 0xbef9a3f7, 0xc67178f2]
theorem roots_len : roots.length = 64 := rfl
/-- The eight words. -/
structure S8 where
  (a c d e f g h i : B32)
def S8.cells (s : S8) : List Value := [wv s.a, wv s.c, wv s.d, wv s.e, wv s.f, wv s.g, wv s.h, wv s.i]
theorem S8.len (s : S8) : s.cells.length = 8 := rfl
def S8.list (s : S8) : List B32 := [s.a, s.c, s.d, s.e, s.f, s.g, s.h, s.i]
theorem S8.cells_list (s : S8) : s.cells = s.list.map wv := rfl
def t1 (s : S8) (k w : B32) : B32 := (((s.i + ((ror s.f 6 ^^^ ror s.f 11) ^^^ ror s.f 25)) + ((s.f &&& s.g) ^^^ (~~~s.f &&& s.h))) + k) + w
def t2 (s : S8) : B32 := ((ror s.a 2 ^^^ ror s.a 13) ^^^ ror s.a 22) + (((s.a &&& s.c) ^^^ (s.a &&& s.d)) ^^^ (s.c &&& s.d))
def round (s : S8) (k w : B32) : S8 := { a := t1 s k w + t2 s, c := s.a, d := s.c, e := s.d, f := s.e + t1 s k w, g := s.f, h := s.g, i := s.h }
def rounds (ws : List B32) (s : S8) : Nat → S8
  | 0 => s
  | t + 1 => round (rounds ws s t) (roots.getD t 0) (ws.getD t 0)
def sum8 (s v : S8) : S8 := ⟨s.a + v.a, s.c + v.c, s.d + v.d, s.e + v.e, s.f + v.f, s.g + v.g, s.h + v.h, s.i + v.i⟩
def turnS (s : S8) (b : List UInt8) : S8 := sum8 s (rounds (sched b 64) s 64)
/-- the first j words added -/
def part8 (s v : S8) (j : Nat) : List B32 := (sum8 s v).list.take j ++ s.list.drop j
theorem part8_len (s v : S8) (j : Nat) (h : j ≤ 8) : (part8 s v j).length = 8 := by
  have h1 : (sum8 s v).list.length = 8 := rfl
  have h2 : s.list.length = 8 := rfl
  simp only [part8, List.length_append, List.length_take, List.length_drop, h1, h2]; omega
theorem part8_set (s v : S8) (j : Nat) (h : j < 8) : (part8 s v j).set j ((part8 s v j).getD j 0 + v.list.getD j 0) = part8 s v (j + 1) := by
  have : j = 0 ∨ j = 1 ∨ j = 2 ∨ j = 3 ∨ j = 4 ∨ j = 5 ∨ j = 6 ∨ j = 7 := by omega
  rcases this with rfl | rfl | rfl | rfl | rfl | rfl | rfl | rfl <;> rfl
theorem part8_end (s v : S8) : part8 s v 8 = (sum8 s v).list := rfl
theorem map_app_at (l : List B32) (tl : List Value) (j : Nat) (hj : j < l.length) : (l.map wv ++ tl)[j]? = some (wv (l.getD j 0)) := by
  rw [List.getElem?_append_left (by simpa using hj)]; exact map_at wv l j 0 hj
theorem map_app_set (l : List B32) (tl : List Value) (j : Nat) (x : B32) (hj : j < l.length) : setL (l.map wv ++ tl) j [wv x] = (l.set j x).map wv ++ tl := by
  simp only [setL, List.map_set]
  rw [List.set_append_left _ _ (by simpa using hj)]
end Go.Proofs.YtojbephcahnbbaaDoor
