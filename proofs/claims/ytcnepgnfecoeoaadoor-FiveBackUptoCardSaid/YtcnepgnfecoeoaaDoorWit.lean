/- What the rows' conditions give the walks, and a world that meets them. No condition. -/
import Derived.Test.YtcnepgnfecoeoaaDoorRows
import Derived.Test.YtcnepgnfecoeoaaDoorGRowp
import Derived.Test.YtcnepgnfecoeoaaDoorLbs
import Derived.Deep.DeepHandedRow
import Derived.Deep.DeepWitnessRowRef
import Derived.Lib.LaidCaseMet
import Derived.PinnedBridge
import Derived.Shelf.Vars
set_option linter.unusedVariables false
namespace Go.Proofs.YtcnepgnfecoeoaaDoor
open Go Go.ChangeShapes Go.WideShapes Go.ChangeAt Go.RowKit Go.Proofs.GP Go.Shelf Go.Lib
theorem own : ownKnob Tryd.prog.godebug = none := by kernel_rfl
theorem gl_of {W : World} (h : W.ShapedOpen Tryd.prog) : Gl W :=
  Go.Proofs.cell_of_shapedOpen_int (zero := #[.int .i64 0]) (t := 3) h (of_decide_eq_true (by kernel_rfl)) (by kernel_rfl) rfl (by kernel_rfl) (by kernel_rfl) Tryd.underlying3
noncomputable def laidWorld (os : Os) : World :=
  let N := (World.settled Tryd.prog os).heap.size
  let w0 := World.holding Tryd.prog os ⟨#[.cells Lib.caseCells5 244], #[], []⟩
  let put (h : Array Obj) (g : Nat) (cs : Array Value) : Array Obj := h.modify g fun
    | .cells _ t frozen => .cells cs t frozen
    | o => o
  let h2 := put w0.heap 5 (Lib.firstTab.map fun z => Value.int .u8 z).toArray
  let h3 := put h2 6 ((List.range 16).flatMap fun i => [Value.int .u8 (Lib.accLo i), Value.int .u8 (Lib.accHi i)]).toArray
  let h5 := put h3 3 #[.slice (some ⟨N, 0, none⟩) 336 336]
  { w0 with heap := h5 }
theorem laid_swap {P : Program} {w : World} {a b c : String × DataW Unit} (h : laidMet P [a, b, c] w) : laidMet P [a, c, b] w := by
  obtain ⟨n1, d1⟩ := a
  obtain ⟨n2, d2⟩ := b
  obtain ⟨n3, d3⟩ := c
  obtain ⟨ps, hv, hn, hc⟩ := h
  obtain ⟨g1, t1, c1, f1, p1, q1, a1, a2, a3, a4, ⟨g2, t2, c2, f2, p2, q2, b1, b2, b3, b4, ⟨g3, t3, c3, f3, p3, q3, e1, e2, e3, e4, e5, rfl⟩, rfl⟩, rfl⟩ := hv
  have e5' : q3 = [] := e5
  subst e5'
  have hp : (MemPlace.row ⟨g1, 0, none⟩ c1.size ++ p1 ++ (MemPlace.row ⟨g2, 0, none⟩ c2.size ++ p2 ++ (MemPlace.row ⟨g3, 0, none⟩ c3.size ++ p3 ++ []))).Perm (MemPlace.row ⟨g1, 0, none⟩ c1.size ++ p1 ++ (MemPlace.row ⟨g3, 0, none⟩ c3.size ++ p3 ++ (MemPlace.row ⟨g2, 0, none⟩ c2.size ++ p2 ++ []))) := by
    refine List.Perm.append_left _ ?_
    rw [List.append_nil, List.append_nil]
    exact List.perm_append_comm
  refine ⟨_, ⟨g1, t1, c1, f1, p1, _, a1, a2, a3, a4, ⟨g3, t3, c3, f3, p3, _, e1, e2, e3, e4, ⟨g2, t2, c2, f2, p2, [], b1, b2, b3, b4, rfl, rfl⟩, rfl⟩, rfl⟩, hp.nodup_iff.1 hn, fun b off hb => hc b off (hp.mem_iff.2 hb)⟩
def laid3 : List (String × DataW Unit) := [("unicode/utf8.acceptRanges", Rows.laid_unicode_utf8_acceptRanges), ("unicode.CaseRanges", Rows.laid_unicode_CaseRanges), ("unicode/utf8.first", Rows.laid_unicode_utf8_first)]
theorem laid_met0 (os : Os) (args : Array Value) : laidMet Tryd.prog ([("unicode/utf8.acceptRanges", Rows.laid_unicode_utf8_acceptRanges), ("unicode/utf8.first", Rows.laid_unicode_utf8_first)] ++ [("unicode.CaseRanges", Lib.caseData)]) ((laidWorld os).forCall (fun _ _ => 0) ⟨#[], args, []⟩).memory :=
  laidMet_with_case (ρ := lowL_ren) { lowL with } lowL.t206 ⟨by kernel_rfl, by kernel_rfl, by kernel_rfl, by kernel_rfl, by kernel_rfl, by kernel_rfl⟩
    (l := [("unicode/utf8.acceptRanges", Rows.laid_unicode_utf8_acceptRanges), ("unicode/utf8.first", Rows.laid_unicode_utf8_first)])
    10 (by kernel_rfl) (by kernel_rfl) (by kernel_rfl) ((World.settled Tryd.prog default).heap.size) 244 (of_decide_eq_true (by kernel_rfl)) (by kernel_rfl) (by kernel_rfl) (by kernel_rfl)
theorem laid_met (os : Os) (args : Array Value) : laidMet Tryd.prog laid3 ((laidWorld os).forCall (fun _ _ => 0) ⟨#[], args, []⟩).memory := by
  have hc : Rows.laid_unicode_CaseRanges = Lib.caseData := Pinned.caseRanges_eq
  unfold laid3
  rw [hc]
  exact laid_swap (laid_met0 os args)
set_option maxRecDepth 100000 in
/-- A []byte that came in. -/
theorem open_bytes {H : Type} {enc : TypeId × Value → H} {W : World} {v : Value} {d : DataW H} {ps : List MemPlace} {base : Nat} (hval : Value.okWide Tryd.prog W .any base 22 v)
    (h : DataW.Trod enc Tryd.prog W 0 (fun _ => true) true 22 v d ps) :
    ∃ (A : Option Addr) (g o c : Nat) (b : By), v = .slice A b.length c ∧ Row W A g o b.length 1 (b.map bv) ∧ b.length ≤ c ∧ b.length ≤ 9223372036854775807 := by
  obtain ⟨A, len0, cap0, rfl⟩ : ∃ a len cap, v = .slice a len cap := okWide_slice Tryd.underlying22 hval
  obtain ⟨fuel, hf⟩ := h
  rcases open_ints Tryd.underlying22 Tryd.underlying5 (by kernel_rfl) hf with ⟨hc, hx⟩ | ⟨a, len, cap, zs, hc, _, hl, hm, hz, hx, hcell, hwf⟩
  · simp only [Value.cells, List.cons.injEq, and_true, Value.slice.injEq] at hc
    obtain ⟨rfl, rfl, rfl⟩ := hc
    exact ⟨none, 0, 0, 0, [], rfl, Row.nil _ _ _ _ _, Nat.zero_le _, by decide⟩
  · simp only [Value.cells, List.cons.injEq, and_true, Value.slice.injEq] at hc
    obtain ⟨rfl, rfl, rfl⟩ := hc
    have hlz : len0 ≤ zs.length := by rw [hz]; split <;> omega
    have hlen : ((List.range len0).map fun i => UInt8.ofNat (zs.getD i 0).toNat).length = len0 := by simp
    refine ⟨some a, a.block, a.off, cap0, (List.range len0).map fun i => UInt8.ofNat (zs.getD i 0).toNat, by rw [hlen], ⟨by simp, ?_⟩, by rw [hlen]; exact hl, ?_⟩
    · by_cases h0 : len0 = 0
      · subst h0; exact .inl rfl
      · obtain ⟨ab, ao, asp⟩ := a
        have hspot : asp = none := by simpa [Addr.add] using World.cell?_spot (hcell 0 (by omega))
        subst hspot
        refine .inr ⟨rfl, fun j hj => ?_⟩
        have hj' : j < len0 := by simpa using hj
        have hc := hcell j (by omega)
        rw [addr_add] at hc
        rw [hc]
        have hw := hwf (zs.getD j 0) (by rw [List.getD_eq_getElem?_getD, List.getElem?_eq_getElem (by omega)]; exact List.getElem_mem _)
        simp [Lit.wf, IntKind.min, IntKind.max, IntKind.signed, IntKind.bits] at hw
        have e : (((UInt8.ofNat (zs.getD j 0).toNat).toNat : Nat) : Int) = zs.getD j 0 := by
          rw [UInt8.toNat_ofNat', Nat.mod_eq_of_lt (by have := hw; simp only [List.getD_eq_getElem?_getD] at *; omega)]
          have := hw
          simp only [List.getD_eq_getElem?_getD] at *
          omega
        rw [List.map_map, List.getElem?_map, List.getElem?_range hj']
        show _ = some (Value.int .u8 _)
        rw [e]
    · rw [hlen]
      unfold maxLen at hm
      omega
end Go.Proofs.YtcnepgnfecoeoaaDoor
