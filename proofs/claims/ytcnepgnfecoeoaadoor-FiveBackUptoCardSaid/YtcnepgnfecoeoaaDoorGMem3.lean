/- Step lemmas, fourth part: bytes of a string; slices of slices. No condition. -/
import Derived.Test.YtcnepgnfecoeoaaDoorGBits
import Derived.Lib.ConvBytes
set_option linter.unusedVariables false
set_option linter.unusedSimpArgs false
namespace Go.Proofs.GP
open Go Go.RowKit
variable {P : Program} {env : Env} {w : World}
theorem fr_bytes (w : World) (e : TypeId) (s : ByteArray) : Fr [] w (Go.Lib.bytesWorld w e s) :=
  ⟨rfl, rfl, rfl, by rw [Go.Lib.bytesWorld_size]; omega, fun k hk _ => Go.Lib.bytesWorld_at_old w e s k hk⟩
theorem d_sbytes {dst : Option Tmp} {ty : TypeId} {pos : String} {after gd} {src t e : TypeId} {u : TypeDesc} {x : Operand} {s : List UInt8} (hs : P.underlying src = some u) (ht : P.underlying t = some (.slice e)) (he : P.underlying e = some (.int .u8)) (hx : ev env x = some (.string ⟨s.toArray⟩)) :
    Doe P env ⟨dst, .convert src t x, ty, pos, after, gd⟩ w (fun v w' => ∃ g c, v = .slice (some ⟨g, 0, none⟩) s.length c ∧ w.heap.size ≤ g ∧ Row w' (some ⟨g, 0, none⟩) g 0 s.length 1 (s.map bv) ∧ Fr [] w w' ∧ g < w'.heap.size ∧ s.length ≤ c) :=
  Doe.of_run fun ρ ha => by
    refine ⟨_, Go.Lib.bytesWorld w e ⟨s.toArray⟩, ?_, w.heap.size, grownCap w s.length 0 e, rfl, Nat.le_refl _, ⟨by simp, .inr ⟨rfl, fun j hj => ?_⟩⟩, fr_bytes _ _ _, by rw [Go.Lib.bytesWorld_size]; omega, ?_⟩
    · have h := Go.Lib.run_convert_string_bytes w src t e ⟨s.toArray⟩ hs ht he
      rw [show (⟨s.toArray⟩ : ByteArray).size = s.length from List.size_toArray] at h
      simp only [execOp, ha x _ hx, Sem.run_bind, h, Result.andThen_ok, Sem.run_pure]
    · have hj' : j < s.length := by simpa using hj
      rw [Nat.zero_add, Go.Lib.bytesWorld_cell w e ⟨s.toArray⟩ j hj']
      rw [List.getElem?_map, List.getElem?_eq_getElem hj']
      simp [bv, List.getD, List.getElem?_eq_getElem hj']
    · simp [grownCap, Question.cut]
theorem d_bs2 {dst : Option Tmp} {ty : TypeId} {pos : String} {after gd} {t e : TypeId} {n : Nat} {ps : Array (Nat × Operand)} {vs : List (Nat × Value)} {cs : List Value} (hr : BsS P t e n vs cs) (hp : EvL env ps.toList vs) :
    Doe P env ⟨dst, .buildSlice t n ps, ty, pos, after, gd⟩ w (fun v w' => ∃ g, v = .slice (some ⟨g, 0, none⟩) n n ∧ w.heap.size ≤ g ∧ Blk w' g e cs ∧ Fr [] w w') := d_bs hp hr
/-- A slice of bytes that is an element of a slice of slices. -/
structure Part where
  A : Option Addr
  g : Nat
  o : Nat
  c : Nat
  b : List UInt8
def Part.v (p : Part) : Value := .slice p.A p.b.length p.c
def Parts (n : Nat) (w : World) (ps : List Part) : Prop := ∀ p, p ∈ ps → p.g < n ∧ Row w p.A p.g p.o p.b.length 1 (p.b.map bv)
theorem Parts.fr {n : Nat} {w w' : World} {ps : List Part} {gs : List Nat} (h : Parts n w ps) (f : Fr gs w w') (hg : ∀ g, g ∈ gs → n ≤ g) : Parts n w' ps := fun p hp =>
  ⟨(h p hp).1, (h p hp).2.fr f (.inr fun hc => by have := hg _ hc; have := (h p hp).1; omega)⟩
theorem Parts.fr0 {n : Nat} {w w' : World} {ps : List Part} (h : Parts n w ps) (f : Fr [] w w') : Parts n w' ps := h.fr f (by simp)
theorem Parts.at_ {n : Nat} {w : World} {ps : List Part} (h : Parts n w ps) (i : Nat) (hi : i < ps.length) : (ps[i]).g < n ∧ Row w (ps[i]).A (ps[i]).g (ps[i]).o (ps[i]).b.length 1 ((ps[i]).b.map bv) := h _ (List.getElem_mem hi)
theorem vmap_at {α : Type} (f : α → Value) (l : List α) (i : Nat) (hi : i < l.length) : (l.map f)[i]? = some (f l[i]) := by
  rw [List.getElem?_map, List.getElem?_eq_getElem hi]; rfl
/-- An own slice's block is another than each of another element type, and not older than the begin: where the slice is nil, say so of a place that is free. -/
theorem own_pick {w0 w : World} {A : Option Addr} {g n c k : Nat} {e : TypeId} {xs : List Value} (h : Own w A g n c e k xs) (wh : A = none ∨ w0.heap.size ≤ g) (hs : w0.heap.size ≤ w.heap.size) :
    ∃ g2, Own w A g2 n c e k xs ∧ w0.heap.size ≤ g2 ∧ ∀ m t l, Blk w m t l → e ≠ t → g2 ≠ m := by
  cases A with
  | none =>
    refine ⟨w.heap.size, ⟨h.len, h.cap, h.most, ?_⟩, hs, fun m t l hb _ e => ?_⟩
    · rcases h.at_ with ⟨_, a, b⟩ | ⟨a, _⟩
      · exact .inl ⟨rfl, a, b⟩
      · cases a
    · have := hb.lt; omega
  | some a =>
    refine ⟨g, h, wh.resolve_left (by simp), fun m t l hb hne => ?_⟩
    rcases h.ne_blk hb hne with e | e
    · cases e
    · exact e
theorem own_some {w : World} {A : Option Addr} {g n c k : Nat} {e : TypeId} {xs : List Value} (h : Own w A g n c e k xs) (hx : 0 < xs.length) : A = some ⟨g, 0, none⟩ := by
  rcases h.at_ with ⟨_, h0, _⟩ | ⟨h1, _⟩
  · have := h.len; rw [h0] at this; omega
  · exact h1
theorem own_far {w : World} {A : Option Addr} {A1 A' : Option Addr} {gv g g' n c k : Nat} {e : TypeId} {xs : List Value} (h : Own w A1 gv n c e k xs) (hx : 0 < xs.length) (hat : (A' = A ∧ g' = g) ∨ w.heap.size ≤ g') (hg : gv ≠ g) : gv ≠ g' := by
  have hl := h.lt
  rcases hl with e0 | hl
  · rw [own_some h hx] at e0; cases e0
  · rcases hat with ⟨_, rfl⟩ | h2
    · exact hg
    · omega
end Go.Proofs.GP
