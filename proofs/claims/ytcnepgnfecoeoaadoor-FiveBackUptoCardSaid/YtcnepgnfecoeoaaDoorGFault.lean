/- Errors that are faults of layers: what stands in memory, what stays. No condition. -/
import Derived.Test.YtcnepgnfecoeoaaDoorGMem3
import Derived.Test.YtcnepgnfecoeoaaDoorGEqs
set_option linter.unusedVariables false
set_option linter.unusedSimpArgs false
namespace Go.Proofs.GP
open Go Go.RowKit

abbrev By := List UInt8
/-- No error; a fault of one layer; a fault of a layer round one of another. -/
inductive Er where
  | no
  | one (l : By) (a c : Int)
  | two (l : By) (a : Int) (l2 : By) (a2 c : Int)
  deriving DecidableEq
def Er.N : Er → Int | .no => 0 | .one .. => 1 | .two .. => 2
def Er.l0 : Er → By | .no => [] | .one l _ _ => l | .two l _ _ _ _ => l
def Er.l1 : Er → By | .no => [] | .one _ _ _ => [] | .two _ _ l _ _ => l
def Er.a0 : Er → Int | .no => 0 | .one _ a _ => a | .two _ a _ _ _ => a
def Er.a1 : Er → Int | .no => 0 | .one _ _ _ => 0 | .two _ _ _ a _ => a
def Er.c : Er → Int | .no => 0 | .one _ _ c => c | .two _ _ _ _ c => c
theorem Er.N_pos (e : Er) : 0 < e.N ↔ e ≠ .no := by cases e <;> simp [Er.N]
theorem Er.N_no {e : Er} (h : ¬ 0 < e.N) : e = .no := by cases e <;> simp_all [Er.N]
theorem Er.ext' {e f : Er} (h0 : e.N = f.N) (h1 : e.l0 = f.l0) (h2 : e.l1 = f.l1) (h3 : e.a0 = f.a0) (h4 : e.a1 = f.a1) (h5 : e.c = f.c) : e = f := by
  cases e <;> cases f <;> simp_all [Er.N, Er.l0, Er.l1, Er.a0, Er.a1, Er.c]

/-- The fault at block g (tf: the faults' type, tp: their pointers', te: the numbers'). -/
def FaultAt (w : World) (tf tp te g : Nat) : Er → Prop
  | .no => False
  | .one l a c => Blk w g tf [.string ⟨l.toArray⟩, .int .i64 a, .iface te (.int .i64 c)]
  | .two l a l2 a2 c => ∃ g2, Blk w g tf [.string ⟨l.toArray⟩, .int .i64 a, .iface tp (.pointer (some ⟨g2, 0, none⟩))] ∧ Blk w g2 tf [.string ⟨l2.toArray⟩, .int .i64 a2, .iface te (.int .i64 c)]
section
variable {w w' : World} {tf tp te g : Nat} {e : Er} {gs : List Nat}
theorem nf_nil (w : World) (tf : Nat) : ∀ g, g ∈ ([] : List Nat) → ∀ l, ¬ Blk w g tf l := fun _ h => by cases h
theorem nf_cons (h : ∀ l, ¬ Blk w g tf l) (k : ∀ g, g ∈ gs → ∀ l, ¬ Blk w g tf l) : ∀ g', g' ∈ g :: gs → ∀ l, ¬ Blk w g' tf l := fun g' hg => by
  rcases List.mem_cons.1 hg with rfl | hg
  · exact h
  · exact k g' hg
theorem nf_one (h : ∀ l, ¬ Blk w g tf l) : ∀ g', g' ∈ [g] → ∀ l, ¬ Blk w g' tf l := nf_cons h (nf_nil _ _)
theorem nf_blk {t : Nat} {l : List Value} (h : Blk w g t l) (hne : t ≠ tf) : ∀ l, ¬ Blk w g tf l := fun l' h' => h.ne_type h' hne rfl
theorem nf_new (h : w.heap.size ≤ g) : ∀ l, ¬ Blk w g tf l := fun l' h' => by have := h'.lt; omega
theorem nf_own {A : Option Addr} {n c k t : Nat} {xs : List Value} (h : Own w A g n c t k xs) (hne : t ≠ tf) : ∀ g', g' ∈ ownL A g → ∀ l, ¬ Blk w g' tf l := fun g' hg l hb => by
  cases A with
  | none => cases hg
  | some a =>
    obtain rfl := List.mem_singleton.1 hg
    exact (h.ne_blk hb hne).elim (fun e => by cases e) fun e => e rfl
theorem nf_own1 {n c k t : Nat} {xs : List Value} {A : Option Addr} (h : Own w A g n c t k xs) (hne : t ≠ tf) (hA : A ≠ none := by simp) : ∀ l, ¬ Blk w g tf l := fun l hb =>
  (h.ne_blk hb hne).elim hA fun e => e rfl
theorem FaultAt.fr (h : FaultAt w tf tp te g e) (f : Fr gs w w') (hg : ∀ g, g ∈ gs → ∀ l, ¬ Blk w g tf l) : FaultAt w' tf tp te g e := by
  cases e with
  | no => exact h.elim
  | one l a c => exact Blk.fr h f fun hc => hg _ hc _ h
  | two l a l2 a2 c =>
    obtain ⟨g2, h1, h2⟩ := h
    exact ⟨g2, h1.fr f fun hc => hg _ hc _ h1, h2.fr f fun hc => hg _ hc _ h2⟩
theorem FaultAt.fr0 (h : FaultAt w tf tp te g e) (f : Fr [] w w') : FaultAt w' tf tp te g e := h.fr f (nf_nil _ _)
theorem FaultAt.lt (h : FaultAt w tf tp te g e) : g < w.heap.size := by
  cases e with
  | no => exact h.elim
  | one l a c => exact Blk.lt h
  | two l a l2 a2 c => obtain ⟨g2, h1, _⟩ := h; exact h1.lt
theorem FaultAt.ne (h : FaultAt w tf tp te g e) : e ≠ .no := by rintro rfl; exact h
theorem FaultAt.ne_blk {t m : Nat} {l : List Value} (h : FaultAt w tf tp te g e) (hb : Blk w m t l) (hne : t ≠ tf) : g ≠ m := by
  cases e with
  | no => exact h.elim
  | one l a c => exact fun he => (hb.ne_type h hne) he.symm
  | two l a l2 a2 c => obtain ⟨g2, h1, _⟩ := h; exact fun he => (hb.ne_type h1 hne) he.symm
end
/-- An error's value. -/
def ErrV (w : World) (tf tp te : Nat) (v : Value) (e : Er) : Prop := (e = .no ∧ v = .nilIface) ∨ ∃ g, v = .iface tp (.pointer (some ⟨g, 0, none⟩)) ∧ FaultAt w tf tp te g e
end Go.Proofs.GP
