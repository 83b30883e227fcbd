/- The chapter's example in plain Lean. No condition. -/
import Derived.Test.YtojbephcahnbbaaDoorDec
import Derived.Test.YtojbephcahnbbaaDoorEq
set_option linter.unusedVariables false
set_option linter.unusedSimpArgs false
namespace Go.Proofs.YtojbephcahnbbaaDoor
open Go Go.Proofs.GP
theorem itoa_dig (N : Nat) (h : N < 10) : Lib.itoa (N : Int) = [UInt8.ofNat (48 + N)] := by rw [itoa_nat, Lib.decDigits, dif_pos h]
def xW : Ent := ⟨5, [120], chain Dig.zero [53, 32, 120]⟩
theorem addW1 : addL [] 5 [120] = (xW, 0, [xW]) := by
  have hl : line 5 [120] = [53, 32, 120] := by unfold line; rw [show (5 : Int) = ((5 : Nat) : Int) from rfl, itoa_dig 5 (by decide)]; rfl
  have hn : nextE (lastE []) 5 [120] = (xW, 0) := by
    rw [next_0 _ _ _ (by decide) (by decide), hl]; rfl
  rw [add_k [] 5 [120] (by rw [hn]) (by decide), hn]; rfl
theorem addW2 : addL [xW] 4 [121] = (Ent.zero, 2, [xW]) := by
  have hn : nextE (lastE [xW]) 4 [121] = (Ent.zero, 2) := next_2 _ _ _ (.inl (show (4 : Int) < 5 by decide))
  rw [add_e [xW] 4 [121] (by rw [hn]; decide), hn]
theorem headW : lastE [xW] = xW := rfl
theorem line7 : line 7 [113] = [55, 32, 113] := by unfold line; rw [show (7 : Int) = ((7 : Nat) : Int) from rfl, itoa_dig 7 (by decide)]; rfl
/-- As own_pick, and other than the block q. -/
theorem own_pick4 {w0 w : World} {A : Option Addr} {g n c k : Nat} {e : TypeId} {xs : List Value} (h : Own w A g n c e k xs) (wh : A = none ∨ w0.heap.size ≤ g) (hs : w0.heap.size ≤ w.heap.size) (q : Nat) (hq : A = none ∨ g ≠ q) :
    ∃ g2, Own w A g2 n c e k xs ∧ w0.heap.size ≤ g2 ∧ g2 ≠ q ∧ ∀ m t l, Blk w m t l → (e ≠ t ∨ A = none ∨ g ≠ m) → g2 ≠ m := by
  cases A with
  | none =>
    refine ⟨w.heap.size + q + 1, ⟨h.len, h.cap, h.most, ?_⟩, by omega, by omega, fun m t l hb _ e => ?_⟩
    · rcases h.at_ with ⟨_, a, b⟩ | ⟨a, _⟩
      · exact .inl ⟨rfl, a, b⟩
      · cases a
    · have := hb.lt; omega
  | some a =>
    refine ⟨g, h, wh.resolve_left (by simp), hq.resolve_left (by simp), fun m t l hb hne => ?_⟩
    rcases hne with hne | hne | hne
    · rcases h.ne_blk hb hne with e | e
      · cases e
      · exact e
    · cases hne
    · exact hne
theorem own_pick5 {w0 w : World} {A : Option Addr} {g n c k : Nat} {e : TypeId} {xs : List Value} (h : Own w A g n c e k xs) (wh : A = none ∨ w0.heap.size ≤ g) (hs : w0.heap.size ≤ w.heap.size) (q r : Nat) (hq : A = none ∨ g ≠ q) (hr : A = none ∨ g ≠ r) :
    ∃ g2, Own w A g2 n c e k xs ∧ w0.heap.size ≤ g2 ∧ (g2 ≠ q ∧ g2 ≠ r) ∧ ∀ m t l, Blk w m t l → (e ≠ t ∨ A = none ∨ g ≠ m) → g2 ≠ m := by
  cases A with
  | none =>
    refine ⟨w.heap.size + q + r + 1, ⟨h.len, h.cap, h.most, ?_⟩, by omega, by omega, fun m t l hb _ e => ?_⟩
    · rcases h.at_ with ⟨_, a, b⟩ | ⟨a, _⟩
      · exact .inl ⟨rfl, a, b⟩
      · cases a
    · have := hb.lt; omega
  | some a =>
    refine ⟨g, h, wh.resolve_left (by simp), ⟨hq.resolve_left (by simp), hr.resolve_left (by simp)⟩, fun m t l hb hne => ?_⟩
    rcases hne with hne | hne | hne
    · rcases h.ne_blk hb hne with e | e
      · cases e
      · exact e
    · cases hne
    · exact hne
end Go.Proofs.YtojbephcahnbbaaDoor
