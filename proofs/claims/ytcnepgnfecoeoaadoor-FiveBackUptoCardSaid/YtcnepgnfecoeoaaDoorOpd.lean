/- Ints, strings and destinations that came in. No condition. -/
import Derived.Test.YtcnepgnfecoeoaaDoorOpn
import Derived.Test.YtcnepgnfecoeoaaDoorHst2
import Derived.ChangeArms
import Derived.ChangeMaps5
set_option linter.unusedVariables false
namespace Go.Proofs.YtcnepgnfecoeoaaDoor
open Go Go.ChangeShapes Go.WideShapes Go.ChangeAt Go.RowKit Go.Proofs.GP
set_option maxRecDepth 100000 in
/-- A []int that came in. -/
theorem open_intl {H : Type} {enc : TypeId × Value → H} {W : World} {v : Value} {d : DataW H} {ps : List MemPlace} {base : Nat} (hval : Value.okWide Tryd.prog W .any base 53 v)
    (h : DataW.Trod enc Tryd.prog W 0 (fun _ => true) true 53 v d ps) :
    ∃ (A : Option Addr) (g o c : Nat) (ms : List Int), v = .slice A ms.length c ∧ Row W A g o ms.length 1 (ms.map jv) ∧ ms.length ≤ c ∧ ms.length + 1 ≤ Rows.uptoBulk d := by
  obtain ⟨A, len0, cap0, rfl⟩ : ∃ a len cap, v = .slice a len cap := okWide_slice Tryd.underlying53 hval
  obtain ⟨fuel, hf⟩ := h
  rcases open_ints Tryd.underlying53 Tryd.underlying3 (by kernel_rfl) hf with ⟨hc, hx⟩ | ⟨a, len, cap, zs, hc, _, hl, hm, hz, hx, hcell, hwf⟩
  · simp only [Value.cells, List.cons.injEq, and_true, Value.slice.injEq] at hc
    obtain ⟨rfl, rfl, rfl⟩ := hc
    exact ⟨none, 0, 0, 0, [], rfl, Row.nil _ _ _ _ _, Nat.zero_le _, one_le d⟩
  · simp only [Value.cells, List.cons.injEq, and_true, Value.slice.injEq] at hc
    obtain ⟨rfl, rfl, rfl⟩ := hc
    have hlz : len0 ≤ zs.length := by rw [hz]; split <;> omega
    have hlen : (zs.take len0).length = len0 := by rw [List.length_take]; omega
    refine ⟨some a, a.block, a.off, cap0, zs.take len0, by rw [hlen], ⟨by simp, ?_⟩, by rw [hlen]; exact hl, ?_⟩
    · by_cases h0 : len0 = 0
      · subst h0; exact .inl rfl
      · obtain ⟨ab, ao, asp⟩ := a
        have hspot : asp = none := by simpa [Addr.add] using World.cell?_spot (hcell 0 (by omega))
        subst hspot
        refine .inr ⟨rfl, fun j hj => ?_⟩
        have hj' : j < len0 := by rw [List.length_map, hlen] at hj; exact hj
        have hc := hcell j (by omega)
        rw [addr_add] at hc
        rw [hc, List.getElem?_map, List.getElem?_take_of_lt hj', List.getElem?_eq_getElem (by omega), List.getD_eq_getElem?_getD, List.getElem?_eq_getElem (by omega)]
        rfl
    · obtain ⟨rfl, _⟩ : d = .slice (lits .i64 (zs.take len0)) (lits .i64 (zs.drop len0)) ∧ ps = MemPlace.row a zs.length := by
        simpa using hx
      have h1 := length_le (H := H) (lits .i64 (zs.take len0))
      have h2 : (lits (H := H) .i64 (zs.take len0)).length = len0 := by simp [lits, hlz]
      rw [hlen]
      simp only [Rows.uptoBulk]
      omega
set_option maxRecDepth 100000 in
/-- A string that came in. -/
theorem open_str {H : Type} {enc : TypeId × Value → H} {W : World} {v : Value} {d : DataW H} {ps : List MemPlace} {base : Nat} (hval : Value.okWide Tryd.prog W .any base 9 v)
    (h : DataW.Trod enc Tryd.prog W 0 (fun _ => true) true 9 v d ps) :
    ∃ u : By, v = .string ⟨u.toArray⟩ ∧ u.length + 1 ≤ Rows.uptoBulk d := by
  obtain ⟨fuel, hf⟩ := h
  obtain ⟨s, hc, hx, _⟩ := DataW.trod_string Tryd.underlying9 hf
  obtain ⟨s', rfl⟩ : ∃ s', v = .string s' := okWide_string Tryd.underlying9 hval
  simp only [Value.cells, List.cons.injEq, and_true, Value.string.injEq] at hc
  subst hc
  obtain ⟨rfl, _⟩ : d = .lit (.string s'.data.toList) ∧ ps = [] := by simpa using hx
  exact ⟨s'.data.toList, by simp, by simp [Rows.uptoBulk]⟩
theorem byte_of {n : Int} (h : (Lit.int .u8 n).wf = true) : ∃ b : UInt8, n = ↑b.toNat := by
  simp [Lit.wf, IntKind.min, IntKind.max, IntKind.signed, IntKind.bits] at h
  exact ⟨UInt8.ofNat n.toNat, by rw [UInt8.toNat_ofNat', Nat.mod_eq_of_lt (by omega)]; omega⟩
set_option maxRecDepth 100000 in
/-- A destination that came in. -/
theorem open_dest {H : Type} {enc : TypeId × Value → H} {W : World} {v : Value} {d : DataW H} {ps : List MemPlace} {base : Nat} (hval : Value.okWide Tryd.prog W .any base 29 v)
    (h : DataW.Trod enc Tryd.prog W 0 (fun _ => true) true 29 v d ps) :
    ∃ D : Ds, v = .agg D.cells.toArray ∧ D.h.n.length + 1 ≤ Rows.uptoBulk d := by
  have s29 : Tryd.prog.cellsOf 29 = 6 := by kernel_rfl
  have s27 : Tryd.prog.cellsOf 27 = 5 := by kernel_rfl
  have s25 : Tryd.prog.cellsOf 25 = 4 := by kernel_rfl
  have s9 : Tryd.prog.cellsOf 9 = 1 := by kernel_rfl
  have s5 : Tryd.prog.cellsOf 5 = 1 := by kernel_rfl
  have s3 : Tryd.prog.cellsOf 3 = 1 := by kernel_rfl
  obtain ⟨cs, rfl, hcs⟩ := okWide_struct Tryd.underlying29 hval
  obtain ⟨fuel, hf⟩ := h
  obtain ⟨xs, n, rfl, hx, hl, hxl, hxs⟩ := DataW.trod_struct Tryd.underlying29 hf
  rw [s29] at hl
  obtain ⟨cs⟩ := cs
  match cs, hl, xs, hxl with
  | [c0, c1, c2, c3, c4, c5], _, [x0, x1], _ =>
    have k0 : DataW.trod enc Tryd.prog W 0 (fun _ => true) true n 27 (([c0, c1, c2, c3, c4, c5].drop 0).take (Tryd.prog.cellsOf 27)) = some x0 := hxs 0 _ rfl
    have k1 : DataW.trod enc Tryd.prog W 0 (fun _ => true) true n 3 (([c0, c1, c2, c3, c4, c5].drop 5).take (Tryd.prog.cellsOf 3)) = some x1 := hxs 1 _ rfl
    rw [s27] at k0
    rw [s3] at k1
    obtain ⟨p, hp, hpx, _⟩ := DataW.trod_int Tryd.underlying3 k1
    obtain ⟨ys, m, rfl, hy, _, hyl, hys⟩ := DataW.trod_struct Tryd.underlying27 k0
    match ys, hyl with
    | [y0, y1], _ =>
      have l0 : DataW.trod enc Tryd.prog W 0 (fun _ => true) true m 25 (([c0, c1, c2, c3, c4].drop 0).take (Tryd.prog.cellsOf 25)) = some y0 := hys 0 _ rfl
      have l1 : DataW.trod enc Tryd.prog W 0 (fun _ => true) true m 9 (([c0, c1, c2, c3, c4].drop 4).take (Tryd.prog.cellsOf 9)) = some y1 := hys 1 _ rfl
      rw [s25] at l0
      rw [s9] at l1
      obtain ⟨s, hs, hsx, _⟩ := DataW.trod_string Tryd.underlying9 l1
      obtain ⟨zs, q, rfl, hz, _, hzl, hzs⟩ := DataW.trod_struct Tryd.underlying25 l0
      match zs, hzl with
      | [z0, z1, z2, z3], _ =>
        have m0 : DataW.trod enc Tryd.prog W 0 (fun _ => true) true q 5 (([c0, c1, c2, c3].drop 0).take (Tryd.prog.cellsOf 5)) = some z0 := hzs 0 _ rfl
        have m1 : DataW.trod enc Tryd.prog W 0 (fun _ => true) true q 5 (([c0, c1, c2, c3].drop 1).take (Tryd.prog.cellsOf 5)) = some z1 := hzs 1 _ rfl
        have m2 : DataW.trod enc Tryd.prog W 0 (fun _ => true) true q 5 (([c0, c1, c2, c3].drop 2).take (Tryd.prog.cellsOf 5)) = some z2 := hzs 2 _ rfl
        have m3 : DataW.trod enc Tryd.prog W 0 (fun _ => true) true q 5 (([c0, c1, c2, c3].drop 3).take (Tryd.prog.cellsOf 5)) = some z3 := hzs 3 _ rfl
        rw [s5] at m0 m1 m2 m3
        obtain ⟨n0, e0, _, w0⟩ := DataW.trod_int Tryd.underlying5 m0
        obtain ⟨n1, e1, _, w1⟩ := DataW.trod_int Tryd.underlying5 m1
        obtain ⟨n2, e2, _, w2⟩ := DataW.trod_int Tryd.underlying5 m2
        obtain ⟨n3, e3, _, w3⟩ := DataW.trod_int Tryd.underlying5 m3
        obtain rfl : c0 = .int .u8 n0 := (List.cons.inj e0).1
        obtain rfl : c1 = .int .u8 n1 := (List.cons.inj e1).1
        obtain rfl : c2 = .int .u8 n2 := (List.cons.inj e2).1
        obtain rfl : c3 = .int .u8 n3 := (List.cons.inj e3).1
        obtain rfl : c4 = .string s := (List.cons.inj hs).1
        obtain rfl : c5 = .int .i64 p := (List.cons.inj hp).1
        obtain ⟨b0, rfl⟩ := byte_of w0
        obtain ⟨b1, rfl⟩ := byte_of w1
        obtain ⟨b2, rfl⟩ := byte_of w2
        obtain ⟨b3, rfl⟩ := byte_of w3
        refine ⟨⟨⟨⟨b0, b1, b2, b3⟩, s.data.toList⟩, p⟩, by simp [Ds.cells], ?_⟩
        have hd : d = .agg [x0.1, x1.1] := congrArg Prod.fst hx
        have hx0 : x0.1 = .agg [y0.1, y1.1] := congrArg Prod.fst hy
        have hy1 : y1.1 = .lit (.string s.data.toList) := congrArg Prod.fst hsx
        rw [hd, hx0, hy1]
        simp only [Rows.uptoBulk, Rows.uptoBulkAll]
        omega
end Go.Proofs.YtcnepgnfecoeoaaDoor
