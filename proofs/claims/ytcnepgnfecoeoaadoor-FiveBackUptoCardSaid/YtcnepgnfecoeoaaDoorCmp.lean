/- What is wrong, hosts and destinations compare as they are. No condition. -/
import Derived.Test.YtcnepgnfecoeoaaDoorFiv
import Derived.Test.YtcnepgnfecoeoaaDoorGMem4
import Derived.Test.YtcnepgnfecoeoaaDoorProg
set_option linter.unusedVariables false
set_option linter.unusedSimpArgs false
namespace Go.Proofs.YtcnepgnfecoeoaaDoor
open Go Go.Proofs.GP Go.Proofs.Tryd
theorem ty5' : TyS Tryd.prog 5 false 1 := ⟨fun w => by kernel_rfl, fun w => by kernel_rfl⟩
theorem ty3' : TyS Tryd.prog 3 false 1 := ⟨fun w => by kernel_rfl, fun w => by kernel_rfl⟩
theorem ty9' : TyS Tryd.prog 9 false 1 := ⟨fun w => by kernel_rfl, fun w => by kernel_rfl⟩
theorem ty39' : TyS Tryd.prog 39 false 1 := ⟨fun w => by kernel_rfl, fun w => by kernel_rfl⟩
theorem ty37' : TyS Tryd.prog 37 true 4 := ⟨fun w => by kernel_rfl, fun w => by kernel_rfl⟩
theorem ty38' : TyS Tryd.prog 38 true 4 := ⟨fun w => by kernel_rfl, fun w => by kernel_rfl⟩
theorem ty25' : TyS Tryd.prog 25 true 4 := ⟨fun w => by kernel_rfl, fun w => by kernel_rfl⟩
theorem ty27' : TyS Tryd.prog 27 true 5 := ⟨fun w => by kernel_rfl, fun w => by kernel_rfl⟩
def fld (n : String) (t o b : Nat) : Field := { name := n, type := t, offset := o, embedded := false, tag := "", pkgPath := "", byteOffset := b }
theorem bstr (a b : By) : ((⟨a.toArray⟩ : ByteArray).toList == (⟨b.toArray⟩ : ByteArray).toList) = decide (a = b) := by
  rw [Bool.eq_iff_iff]; simp [ByteArray.toList_eq]
theorem bint (a b : Int) : (a == b) = decide (a = b) := rfl
theorem bu8 (a b : UInt8) : ((a.toNat : Int) == (b.toNat : Int)) = decide (a = b) := by
  rw [Bool.eq_iff_iff]
  simp only [beq_iff_eq, decide_eq_true_eq]
  rw [← UInt8.toNat_inj]; omega
theorem ein37 (k : Nat) (a b c d : By) (w : World) : (Op.equalIn (k + 2) 37 (.agg #[.string ⟨a.toArray⟩, .string ⟨b.toArray⟩, .string ⟨([] : List UInt8).toArray⟩, .string ⟨([] : List UInt8).toArray⟩]) (.agg #[.string ⟨c.toArray⟩, .string ⟨d.toArray⟩, .string ⟨([] : List UInt8).toArray⟩, .string ⟨([] : List UInt8).toArray⟩])).run Tryd.prog w = .ok (decide (a = c) && decide (b = d)) w := by
  have h := ein_items (w := w) (P := Tryd.prog) k Tryd.underlying37 (i := t9) (by kernel_rfl) (by kernel_rfl) ty9' [.string ⟨a.toArray⟩, .string ⟨b.toArray⟩, .string ⟨([] : List UInt8).toArray⟩, .string ⟨([] : List UInt8).toArray⟩] [.string ⟨c.toArray⟩, .string ⟨d.toArray⟩, .string ⟨([] : List UInt8).toArray⟩, .string ⟨([] : List UInt8).toArray⟩] rfl rfl
    (fun i => match i with | 0 => decide (a = c) | 1 => decide (b = d) | _ => true) (fun i x y hx hy => by
      match i, hx, hy with
      | 0, hx, hy => cases hx; cases hy; rw [run_equalIn_string w k 9 _ _ Tryd.underlying9, bstr]; rfl
      | 1, hx, hy => cases hx; cases hy; rw [run_equalIn_string w k 9 _ _ Tryd.underlying9, bstr]; rfl
      | 2, hx, hy => cases hx; cases hy; rw [run_equalIn_string w k 9 _ _ Tryd.underlying9, bstr]; exact congrArg (fun b => Result.ok b w) (by simp)
      | 3, hx, hy => cases hx; cases hy; rw [run_equalIn_string w k 9 _ _ Tryd.underlying9, bstr]; exact congrArg (fun b => Result.ok b w) (by simp)
      | i + 4, hx, hy => cases hx)
  refine h.trans ?_
  refine congrArg (fun b => Result.ok b w) ?_
  simp [List.range, List.range.loop]
theorem ein38 (k : Nat) (a b c d : Int) (w : World) : (Op.equalIn (k + 2) 38 (.agg #[.int .i64 a, .int .i64 b, .int .i64 0, .int .i64 0]) (.agg #[.int .i64 c, .int .i64 d, .int .i64 0, .int .i64 0])).run Tryd.prog w = .ok (decide (a = c) && decide (b = d)) w := by
  have h := ein_items (w := w) (P := Tryd.prog) k Tryd.underlying38 (i := t3) (by kernel_rfl) (by kernel_rfl) ty3' [.int .i64 a, .int .i64 b, .int .i64 0, .int .i64 0] [.int .i64 c, .int .i64 d, .int .i64 0, .int .i64 0] rfl rfl
    (fun i => match i with | 0 => decide (a = c) | 1 => decide (b = d) | _ => true) (fun i x y hx hy => by
      match i, hx, hy with
      | 0, hx, hy => cases hx; cases hy; rw [run_equalIn_int w k 3 .i64 .i64 _ _ Tryd.underlying3]; rfl
      | 1, hx, hy => cases hx; cases hy; rw [run_equalIn_int w k 3 .i64 .i64 _ _ Tryd.underlying3]; rfl
      | 2, hx, hy => cases hx; cases hy; rw [run_equalIn_int w k 3 .i64 .i64 _ _ Tryd.underlying3]; exact congrArg (fun b => Result.ok b w) (by simp)
      | 3, hx, hy => cases hx; cases hy; rw [run_equalIn_int w k 3 .i64 .i64 _ _ Tryd.underlying3]; exact congrArg (fun b => Result.ok b w) (by simp)
      | i + 4, hx, hy => cases hx)
  refine h.trans ?_
  refine congrArg (fun b => Result.ok b w) ?_
  simp [List.range, List.range.loop]
theorem eq41 (e f : Er) : EqS Tryd.prog 41 (badL e) (badL f) (decide (e = f)) := by
  refine ⟨by kernel_rfl, fun w => ?_⟩
  rw [run_equalIn_struct w 9999 41 _ _ (Tryd.underlying41.trans (by kernel_rfl)) (by kernel_rfl)]
  have hf : (Tryd.prog.fieldsOf 41).toList = [fld "N" 3 0 0, fld "Layer" 37 1 8, fld "At" 38 5 72, fld "Code" 39 9 104] := by kernel_rfl
  rw [hf]
  have h := eqf_cons (P := Tryd.prog) (w := w) (d := 9999) (xs := (badL e).toArray) (ys := (badL f).toArray) (f := fld "N" 3 0 0) (by decide)
    (run_part1 (v := .int .i64 e.N) ty3' rfl) (run_part1 (v := .int .i64 f.N) ty3' rfl) (run_equalIn_int w 9998 3 .i64 .i64 _ _ Tryd.underlying3)
    (eqf_cons (f := fld "Layer" 37 1 8) (by decide) (run_partA (xs := _) ty37' rfl) (run_partA (xs := _) ty37' rfl) (ein37 9997 e.l0 e.l1 f.l0 f.l1 w)
    (eqf_cons (f := fld "At" 38 5 72) (by decide) (run_partA (xs := _) ty38' rfl) (run_partA (xs := _) ty38' rfl) (ein38 9997 e.a0 e.a1 f.a0 f.a1 w)
    (eqf_cons (f := fld "Code" 39 9 104) (by decide) (run_part1 (v := .int .i64 e.c) ty39' rfl) (run_part1 (v := .int .i64 f.c) ty39' rfl) (run_equalIn_int w 9998 39 .i64 .i64 _ _ Tryd.underlying39) eqf_nil)))
  rw [h]
  refine congrArg (fun b => Result.ok b w) ?_
  rw [Bool.eq_iff_iff]
  simp only [bint, Bool.and_eq_true, decide_eq_true_eq, and_true]
  constructor
  · rintro ⟨h1, ⟨h2, h3⟩, ⟨h4, h5⟩, h6⟩; exact Er.ext' h1 h2 h3 h4 h5 h6
  · rintro rfl; simp
theorem ein25 (k : Nat) (x y : Ad) (w : World) : (Op.equalIn (k + 2) 25 (.agg x.cells.toArray) (.agg y.cells.toArray)).run Tryd.prog w = .ok (decide (x = y)) w := by
  rw [run_equalIn_struct w (k + 1) 25 _ _ (Tryd.underlying25.trans (by kernel_rfl)) (by kernel_rfl)]
  have hf : (Tryd.prog.fieldsOf 25).toList = [fld "A" 5 0 0, fld "B" 5 1 1, fld "C" 5 2 2, fld "D" 5 3 3] := by kernel_rfl
  rw [hf]
  have h := eqf_cons (P := Tryd.prog) (w := w) (d := k + 1) (xs := x.cells.toArray) (ys := y.cells.toArray) (f := fld "A" 5 0 0) (by decide)
    (run_part1 (v := .int .u8 ↑x.a.toNat) ty5' rfl) (run_part1 (v := .int .u8 ↑y.a.toNat) ty5' rfl) (run_equalIn_int w k 5 .u8 .u8 _ _ Tryd.underlying5)
    (eqf_cons (f := fld "B" 5 1 1) (by decide) (run_part1 (v := .int .u8 ↑x.b.toNat) ty5' rfl) (run_part1 (v := .int .u8 ↑y.b.toNat) ty5' rfl) (run_equalIn_int w k 5 .u8 .u8 _ _ Tryd.underlying5)
    (eqf_cons (f := fld "C" 5 2 2) (by decide) (run_part1 (v := .int .u8 ↑x.c.toNat) ty5' rfl) (run_part1 (v := .int .u8 ↑y.c.toNat) ty5' rfl) (run_equalIn_int w k 5 .u8 .u8 _ _ Tryd.underlying5)
    (eqf_cons (f := fld "D" 5 3 3) (by decide) (run_part1 (v := .int .u8 ↑x.d.toNat) ty5' rfl) (run_part1 (v := .int .u8 ↑y.d.toNat) ty5' rfl) (run_equalIn_int w k 5 .u8 .u8 _ _ Tryd.underlying5) eqf_nil)))
  rw [h]
  refine congrArg (fun b => Result.ok b w) ?_
  rw [Bool.eq_iff_iff]
  simp only [bu8, Bool.and_eq_true, decide_eq_true_eq, and_true]
  cases x; cases y; simp
theorem eq25 (x y : Ad) : EqS Tryd.prog 25 x.cells y.cells (decide (x = y)) := ⟨by kernel_rfl, fun w => ein25 9998 x y w⟩
theorem ein27 (k : Nat) (x y : Hs) (w : World) : (Op.equalIn (k + 3) 27 (.agg x.cells.toArray) (.agg y.cells.toArray)).run Tryd.prog w = .ok (decide (x = y)) w := by
  rw [run_equalIn_struct w (k + 2) 27 _ _ (Tryd.underlying27.trans (by kernel_rfl)) (by kernel_rfl)]
  have hf : (Tryd.prog.fieldsOf 27).toList = [fld "Addr" 25 0 0, fld "Name" 9 4 8] := by kernel_rfl
  rw [hf]
  have h := eqf_cons (P := Tryd.prog) (w := w) (d := k + 2) (xs := x.cells.toArray) (ys := y.cells.toArray) (f := fld "Addr" 25 0 0) (by decide)
    (run_partA (xs := x.ad.cells) ty25' rfl) (run_partA (xs := y.ad.cells) ty25' rfl) (ein25 k x.ad y.ad w)
    (eqf_cons (f := fld "Name" 9 4 8) (by decide) (run_part1 (v := .string ⟨x.n.toArray⟩) ty9' rfl) (run_part1 (v := .string ⟨y.n.toArray⟩) ty9' rfl) (run_equalIn_string w (k + 1) 9 _ _ Tryd.underlying9) eqf_nil)
  rw [h]
  refine congrArg (fun b => Result.ok b w) ?_
  rw [Bool.eq_iff_iff]
  simp only [bstr, Bool.and_eq_true, decide_eq_true_eq, and_true]
  cases x; cases y; simp
theorem eq27 (x y : Hs) : EqS Tryd.prog 27 x.cells y.cells (decide (x = y)) := ⟨by kernel_rfl, fun w => ein27 9997 x y w⟩
theorem eq29 (x y : Ds) : EqS Tryd.prog 29 x.cells y.cells (decide (x = y)) := by
  refine ⟨by kernel_rfl, fun w => ?_⟩
  rw [run_equalIn_struct w 9999 29 _ _ (Tryd.underlying29.trans (by kernel_rfl)) (by kernel_rfl)]
  have hf : (Tryd.prog.fieldsOf 29).toList = [fld "Host" 27 0 0, fld "Port" 3 5 24] := by kernel_rfl
  rw [hf]
  have h := eqf_cons (P := Tryd.prog) (w := w) (d := 9999) (xs := x.cells.toArray) (ys := y.cells.toArray) (f := fld "Host" 27 0 0) (by decide)
    (run_partA (xs := x.h.cells) ty27' rfl) (run_partA (xs := y.h.cells) ty27' rfl) (ein27 9996 x.h y.h w)
    (eqf_cons (f := fld "Port" 3 5 24) (by decide) (run_part1 (v := .int .i64 x.p) ty3' rfl) (run_part1 (v := .int .i64 y.p) ty3' rfl) (run_equalIn_int w 9998 3 .i64 .i64 _ _ Tryd.underlying3) eqf_nil)
  rw [h]
  refine congrArg (fun b => Result.ok b w) ?_
  rw [Bool.eq_iff_iff]
  simp only [bint, Bool.and_eq_true, decide_eq_true_eq, and_true]
  cases x; cases y; simp
end Go.Proofs.YtcnepgnfecoeoaaDoor
