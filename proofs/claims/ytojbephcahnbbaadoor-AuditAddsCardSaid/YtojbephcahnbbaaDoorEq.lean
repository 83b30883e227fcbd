/- Records and digests compare as they are. No condition. -/
import Derived.Test.YtojbephcahnbbaaDoorLog
import Derived.Test.YtojbephcahnbbaaDoorGEqs
import Derived.Test.YtojbephcahnbbaaDoorProg
set_option linter.unusedVariables false
set_option linter.unusedSimpArgs false
namespace Go.Proofs.YtojbephcahnbbaaDoor
open Go Go.Proofs.GP Go.Proofs.Tryd
theorem ty5' : TyS Tryd.prog 5 false 1 := ⟨fun w => by kernel_rfl, fun w => by kernel_rfl⟩
theorem ty26' : TyS Tryd.prog 26 true 32 := ⟨fun w => by kernel_rfl, fun w => by kernel_rfl⟩
theorem ty3' : TyS Tryd.prog 3 false 1 := ⟨fun w => by kernel_rfl, fun w => by kernel_rfl⟩
theorem ty9' : TyS Tryd.prog 9 false 1 := ⟨fun w => by kernel_rfl, fun w => by kernel_rfl⟩
theorem ein26 (k : Nat) (d d' : Dig) (w : World) : (Op.equalIn (k + 2) 26 (.agg d.cells.toArray) (.agg d'.cells.toArray)).run Tryd.prog w = .ok (decide (d = d')) w := by
  have h := ein_bytes (w := w) k Tryd.underlying26 (i := t5) (by kernel_rfl) (by kernel_rfl) Tryd.underlying5 ty5' d.l d'.l d.h d'.h
  have e : decide (d.l = d'.l) = decide (d = d') := by
    cases d; cases d'; simp
  rw [e] at h
  exact h
theorem eq26 (d d' : Dig) : EqS Tryd.prog 26 d.cells d'.cells (decide (d = d')) := ⟨by kernel_rfl, fun w => ein26 9998 d d' w⟩
theorem eq28 (e e' : Ent) : EqS Tryd.prog 28 e.cells e'.cells (decide (e = e')) := by
  refine ⟨by kernel_rfl, fun w => ?_⟩
  rw [run_equalIn_struct w 9999 28 _ _ (Tryd.underlying28.trans (by kernel_rfl)) (by kernel_rfl)]
  have hf : (Tryd.prog.fieldsOf 28).toList = [{ name := "At", type := 3, offset := 0, embedded := false, tag := "", pkgPath := "", byteOffset := 0 },
        { name := "Text", type := 9, offset := 1, embedded := false, tag := "", pkgPath := "", byteOffset := 8 },
        { name := "Sum", type := 26, offset := 2, embedded := false, tag := "", pkgPath := "", byteOffset := 24 }] := by kernel_rfl
  rw [hf]
  have h := eqf_cons (P := Tryd.prog) (w := w) (d := 9999) (xs := e.cells.toArray) (ys := e'.cells.toArray) (f := { name := "At", type := 3, offset := 0, embedded := false, tag := "", pkgPath := "", byteOffset := 0 }) (by decide)
    (run_part1 (v := .int .i64 e.at_) ty3' rfl) (run_part1 (v := .int .i64 e'.at_) ty3' rfl) (run_equalIn_int w 9998 3 .i64 .i64 _ _ Tryd.underlying3)
    (eqf_cons (f := { name := "Text", type := 9, offset := 1, embedded := false, tag := "", pkgPath := "", byteOffset := 8 }) (by decide)
    (run_part1 (v := .string ⟨e.text.toArray⟩) ty9' rfl) (run_part1 (v := .string ⟨e'.text.toArray⟩) ty9' rfl) (run_equalIn_string w 9998 9 _ _ Tryd.underlying9)
    (eqf_cons (f := { name := "Sum", type := 26, offset := 2, embedded := false, tag := "", pkgPath := "", byteOffset := 24 }) (by decide)
    (run_partA (xs := e.sum.cells) ty26' (take_all e.sum.cells (Dig.len _))) (run_partA (xs := e'.sum.cells) ty26' (take_all e'.sum.cells (Dig.len _))) (ein26 9997 e.sum e'.sum w) eqf_nil))
  rw [h]
  congr 1
  cases e; cases e'
  simp [ByteArray.toList_eq, Ent.mk.injEq, Bool.and_eq_true, decide_eq_true_eq]
  first | rfl | (apply Bool.eq_iff_iff.2; simp)
theorem row_none {w : World} {A : Option Addr} {g o n : Nat} {es : List Ent} (hr : Row w A g o n 34 (ents es)) (hA : A = none) : es = [] := by
  rcases hr.cells with h | h
  · cases es with
    | nil => rfl
    | cons a l => have := ents_len (a :: l); rw [h] at this; simp at this
  · exact absurd (h.1.symm.trans hA) (by simp)
end Go.Proofs.YtojbephcahnbbaaDoor
