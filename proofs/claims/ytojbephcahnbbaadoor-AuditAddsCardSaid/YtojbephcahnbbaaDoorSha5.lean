/- The reference digest in plain Lean, second part: that it is the digest. No condition. -/
import Derived.Test.YtojbephcahnbbaaDoorSha4
set_option linter.unusedVariables false
set_option linter.unusedSimpArgs false
namespace Go.Proofs.YtojbephcahnbbaaDoor
open Go Go.Proofs.GP
theorem procS_app : ∀ (k : Nat) (s : S8) (r b : List UInt8), r.length ≤ k → procS (procS s r).1 ((procS s r).2 ++ b) = procS s (r ++ b)
  | 0, s, r, b, h => by rw [procS_done s r (by omega)]
  | k + 1, s, r, b, h => by
    by_cases hr : 64 ≤ r.length
    · have h1 := procS_step s (r ++ b) (by rw [List.length_append]; omega)
      rw [List.take_append_of_le_length hr, List.drop_append_of_le_length hr] at h1
      rw [← procS_step s r hr, ← h1]
      exact procS_app k _ _ _ (by rw [List.length_drop]; omega)
    · rw [procS_done s r hr]
theorem procS_mod : ∀ (k : Nat) (s : S8) (r : List UInt8), r.length ≤ k → (procS s r).2.length % 64 = r.length % 64
  | 0, s, r, h => by rw [procS_done s r (by omega)]
  | k + 1, s, r, h => by
    by_cases hr : 64 ≤ r.length
    · rw [← procS_step s r hr, procS_mod k _ _ (by rw [List.length_drop]; omega), List.length_drop]; omega
    · rw [procS_done s r hr]
def flat (ps : List Part) : List UInt8 := ps.flatMap Part.b
theorem flat_step (ps : List Part) (i : Nat) (h : i < ps.length) : flat (ps.take (i + 1)) = flat (ps.take i) ++ ps[i].b := by
  unfold flat
  rw [List.take_add_one, List.getElem?_eq_getElem h, Option.toList_some, List.flatMap_append]
  simp
theorem flat_le (ps : List Part) (i : Nat) : (flat (ps.take i)).length ≤ (flat ps).length := by
  have h : flat ps = flat (ps.take i) ++ flat (ps.drop i) := by
    unfold flat; rw [← List.flatMap_append, List.take_append_drop]
  rw [h, List.length_append]; omega
def refAll (m : List UInt8) : List UInt8 := padZ (m ++ [0x80]) ++ lenB (n64 m.length)
theorem refAll_mod (m : List UInt8) : (refAll m).length % 64 = 0 := by
  have h8 : (lenB (n64 m.length)).length = 8 := rfl
  unfold refAll padZ
  rw [List.length_append, List.length_append, List.length_replicate, h8]
  omega
theorem refAll_le (m : List UInt8) : (refAll m).length ≤ m.length + 72 := by
  have h8 : (lenB (n64 m.length)).length = 8 := rfl
  have := padZ_len (m ++ [0x80])
  unfold refAll
  rw [List.length_append, h8]
  rw [List.length_append, List.length_singleton] at this
  omega
theorem n64_add (a b : Nat) : n64 a + n64 b = n64 (a + b) := by
  unfold n64; exact (BitVec.ofNat_add a b).symm
theorem fold_inv : ∀ (ps : List Part) (d : Dg) (m : List UInt8), (d.s, d.rest) = procS init8 m → d.n = n64 m.length →
    ((ps.foldl (fun d p => d.add p.b) d).s, (ps.foldl (fun d p => d.add p.b) d).rest) = procS init8 (m ++ flat ps) ∧ (ps.foldl (fun d p => d.add p.b) d).n = n64 (m ++ flat ps).length
  | [], d, m, h, hn => by simp [flat, h, hn]
  | p :: ps, d, m, h, hn => by
    have h1 : d.s = (procS init8 m).1 := congrArg Prod.fst h
    have h2 : d.rest = (procS init8 m).2 := congrArg Prod.snd h
    have := fold_inv ps (d.add p.b) (m ++ p.b) (by
      show (procS d.s (d.rest ++ p.b)) = _
      rw [h1, h2]; exact procS_app _ _ _ _ (Nat.le_refl _)) (by
      show d.n + n64 p.b.length = _
      rw [hn, n64_add, List.length_append])
    rw [List.foldl_cons]
    rw [show m ++ flat (p :: ps) = (m ++ p.b) ++ flat ps by simp [flat]]
    exact this
def refSum (m : List UInt8) : Dig := ⟨digB (procS init8 (refAll m)).1, rfl⟩
theorem sum_ref (ps : List Part) : (Dg.adds ps).sum = refSum (flat ps) := by
  obtain ⟨h, hn⟩ := fold_inv ps Dg.new [] rfl rfl
  rw [List.nil_append] at h hn
  have h1 : (Dg.adds ps).s = (procS init8 (flat ps)).1 := congrArg Prod.fst h
  have h2 : (Dg.adds ps).rest = (procS init8 (flat ps)).2 := congrArg Prod.snd h
  have h3 : (Dg.adds ps).n = n64 (flat ps).length := hn
  have hm := procS_mod _ init8 (flat ps) (Nat.le_refl _)
  have e : procS (Dg.adds ps).s (Dg.adds ps).all = procS init8 (refAll (flat ps)) := by
    unfold Dg.all refAll padZ
    rw [h1, h2, h3, List.length_append, List.length_append, List.length_singleton]
    rw [show (120 - ((procS init8 (flat ps)).2.length + 1) % 64) = 120 - ((flat ps).length + 1) % 64 by omega]
    rw [List.append_assoc, List.append_assoc, List.append_assoc, List.append_assoc]
    exact procS_app _ _ _ _ (Nat.le_refl _)
  unfold Dg.sum refSum
  simp only [e]
/-- the first k bytes laid -/
def outP (s : S8) (k : Nat) : List UInt8 := (digB s).take k ++ List.replicate (32 - k) 0
theorem outP_len (s : S8) (k : Nat) (h : k ≤ 32) : (outP s k).length = 32 := by
  have h1 : (digB s).length = 32 := rfl
  simp only [outP, List.length_append, List.length_take, List.length_replicate, h1]; omega
def outb (s : S8) (k : Nat) : UInt8 := low32 (s.list.getD (k / 4) 0 >>> (24 - 8 * (k % 4)))
theorem outP_step (s : S8) : ∀ (k : Nat), k < 32 → (outP s k).set k (outb s k) = outP s (k + 1)
  | 0, _ => rfl | 1, _ => rfl | 2, _ => rfl | 3, _ => rfl | 4, _ => rfl | 5, _ => rfl | 6, _ => rfl | 7, _ => rfl
  | 8, _ => rfl | 9, _ => rfl | 10, _ => rfl | 11, _ => rfl | 12, _ => rfl | 13, _ => rfl | 14, _ => rfl | 15, _ => rfl
  | 16, _ => rfl | 17, _ => rfl | 18, _ => rfl | 19, _ => rfl | 20, _ => rfl | 21, _ => rfl | 22, _ => rfl | 23, _ => rfl
  | 24, _ => rfl | 25, _ => rfl | 26, _ => rfl | 27, _ => rfl | 28, _ => rfl | 29, _ => rfl | 30, _ => rfl | 31, _ => rfl
  | k + 32, h => absurd h (by omega)
theorem Parts.fro {n : Nat} {w w' : World} {ps : List Part} {A : Option Addr} {g : Nat} (h : Parts n w ps) (f : Fr (ownL A g) w w') (hw : A = none ∨ g ∈ ([] : List Nat) ∨ n ≤ g) : Parts n w' ps := h.fr f fun x hx => by
  cases A with
  | none => simp [ownL] at hx
  | some a =>
    simp [ownL] at hx; subst hx
    rcases hw with h | h | h
    · cases h
    · simp at h
    · exact h
end Go.Proofs.YtojbephcahnbbaaDoor
