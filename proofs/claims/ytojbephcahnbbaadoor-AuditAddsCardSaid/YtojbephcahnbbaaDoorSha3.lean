/- The digest of layer 4, in plain Lean, third part: the digest of several parts. No condition. -/
import Derived.Test.YtojbephcahnbbaaDoorSha2
import Derived.Test.YtojbephcahnbbaaDoorGMem3
set_option linter.unusedVariables false
set_option linter.unusedSimpArgs false
namespace Go.Proofs.YtojbephcahnbbaaDoor
open Go Go.Proofs.GP
theorem proc_lt : ∀ (k : Nat) (s : S8) (r : List UInt8), r.length ≤ k → (proc k s r).2.length < 64
  | 0, s, r, h => by simp only [proc]; omega
  | k + 1, s, r, h => by
    simp only [proc]
    split
    · exact proc_lt k _ _ (by rw [List.length_drop]; omega)
    · show r.length < 64
      omega
theorem Dg.add_lt (d : Dg) (b : List UInt8) : (d.add b).rest.length < 64 := proc_lt _ _ _ (Nat.le_refl _)
def Dg.adds (ps : List Part) : Dg := ps.foldl (fun d p => d.add p.b) Dg.new
theorem Dg.adds_step (ps : List Part) (i : Nat) (h : i < ps.length) : Dg.adds (ps.take (i + 1)) = (Dg.adds (ps.take i)).add ps[i].b := by
  unfold Dg.adds
  rw [List.take_add_one, List.getElem?_eq_getElem h, Option.toList_some, List.foldl_append]
  rfl
theorem Dg.adds_lt (ps : List Part) (i : Nat) : (Dg.adds (ps.take i)).rest.length < 64 := by
  induction i with
  | zero => simp [Dg.adds, Dg.new]
  | succ i ih =>
    by_cases h : i < ps.length
    · rw [Dg.adds_step ps i h]; exact Dg.add_lt _ _
    · rw [List.take_of_length_le (by omega)]
      rw [List.take_of_length_le (by omega)] at ih
      exact ih
theorem chain_adds (last : Dig) (text : List UInt8) (p q r : Part) (h1 : p.b = last.l) (h2 : q.b = len4 text.length) (h3 : r.b = text) : (Dg.adds [p, q, r]).sum = chain last text := by
  unfold Dg.adds chain
  rw [List.foldl_cons, List.foldl_cons, List.foldl_cons, List.foldl_nil, h1, h2, h3]
end Go.Proofs.YtojbephcahnbbaaDoor
