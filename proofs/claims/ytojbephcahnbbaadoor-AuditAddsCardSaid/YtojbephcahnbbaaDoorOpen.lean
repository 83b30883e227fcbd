/- Law 21: what the rows' conditions give the walks. No condition. -/
import Derived.Test.YtojbephcahnbbaaDoorRows
import Derived.Test.YtojbephcahnbbaaDoorGRowp
import Derived.Test.YtojbephcahnbbaaDoorGl
import Derived.Test.YtojbephcahnbbaaDoorNote
import Derived.Deep.DeepHandedRow
import Derived.Lib.LaidTab
import Derived.Lib.LaidU8
set_option linter.unusedVariables false
namespace Go.Proofs.YtojbephcahnbbaaDoor
open Go Go.ChangeShapes Go.WideShapes Go.ChangeAt Go.RowKit Go.Proofs.GP
theorem own : ownKnob Tryd.prog.godebug = none := by kernel_rfl
theorem tab_of_reads {P : Program} {W : World} {name : String} {k : IntKind} {zs : List Int} {g : Nat} {t e : TypeId} {n : Nat}
    (hg : P.globalNamed name = some g) (hty : (P.globals[g]?).map (·.type) = some t) (ht : P.underlying t = some (.array n e)) (he : P.underlying e = some (.int k)) (hce : P.cellsOf e = 1) (hct : P.cellsOf t = n)
    (h : Lib.VarReads P W name (Lib.tabData k zs)) : Lib.TabIs P W name k zs := by
  obtain ⟨g', t', cs, fuel, p, hg', ht', hvar, hd⟩ := h
  obtain rfl := Option.some.inj (hg.symm.trans hg')
  obtain rfl := Option.some.inj (hty.symm.trans ht')
  unfold Lib.TabIs
  rw [hvar, ← Lib.cells_of_tab ht he hce hct hd]
theorem var_lt {P : Program} {W : World} {name : String} {g : Nat} {cs : Array Value} (hg : P.globalNamed name = some g) (h : W.var? P name = some cs) : g < W.heap.size := by
  unfold World.var? at h
  rw [hg, Option.bind_some] at h
  rcases Nat.lt_or_ge g W.heap.size with h' | h'
  · exact h'
  · rw [Array.getElem?_eq_none h'] at h; cases h
theorem gRoots : Tryd.prog.globalNamed "sallyport/digest.roots" = some 0 := by kernel_rfl
theorem gPow : Tryd.prog.globalNamed "internal/strconv.uint64pow10" = some 1 := by kernel_rfl
theorem g32 : Tryd.prog.globalNamed "math/bits.deBruijn32tab" = some 2 := by kernel_rfl
theorem g64 : Tryd.prog.globalNamed "math/bits.deBruijn64tab" = some 3 := by kernel_rfl
def rootZ : List Int := roots.map fun x => (x.toNat : Int)
theorem roots_tab {W : World} (h : Lib.VarReads Tryd.prog W "sallyport/digest.roots" Rows.laid_sallyport_digest_roots) : Row W (some ⟨0, 0, none⟩) 0 0 64 1 (roots.map wv) := by
  have h' : Lib.VarReads Tryd.prog W "sallyport/digest.roots" (Lib.tabData .u32 rootZ) := h
  have ht : Lib.TabIs Tryd.prog W "sallyport/digest.roots" .u32 rootZ := tab_of_reads (t := 90) (e := 74) (n := 64) gRoots (by kernel_rfl) Tryd.underlying90 Tryd.underlying74 (by kernel_rfl) (by kernel_rfl) h'
  refine ⟨rfl, .inr ⟨rfl, fun j hj => ?_⟩⟩
  have hj' : j < rootZ.length := by simpa [rootZ] using hj
  have := ht.cell gRoots j hj'
  rw [Nat.zero_add, this]
  have hj2 : j < roots.length := by simpa using hj
  rw [List.getElem?_map, List.getElem?_eq_getElem hj2]
  simp [rootZ, wv, List.getD, hj2]
theorem gl_of {W : World} (hL : laidMetH Tryd.prog Rows.auditAddsRow.laid W) : Gl W := by
  have h : laidMet Tryd.prog Rows.auditAddsRow.laid W := hL
  have h64 := Lib.laidMet.reads h (n := "math/bits.deBruijn64tab") (.tail _ (.head _))
  have hp := Lib.laidMet.reads h (n := "internal/strconv.uint64pow10") (.tail _ (.tail _ (.head _)))
  have hr := Lib.laidMet.reads h (n := "sallyport/digest.roots") (.tail _ (.tail _ (.tail _ (.head _))))
  refine ⟨roots_tab hr, tab_of_reads (t := 94) (e := 59) (n := 20) gPow (by kernel_rfl) Tryd.underlying94 Tryd.underlying59 (by kernel_rfl) (by kernel_rfl) hp, ?_⟩
  obtain ⟨g', t', cs, fuel, p, hg', _, hvar, _⟩ := h64
  obtain rfl := Option.some.inj (g64.symm.trans hg')
  exact var_lt g64 hvar
def noteOf (u v : Value) : Note := match u, v with | .int _ z, .string s => ⟨z, s.data.toList⟩ | _, _ => Note.zero
theorem open_notes {H : Type} {enc : TypeId × Value → H} {W : World} {v : Value} {d : DataW H} {ps : List MemPlace} {base : Nat} (hval : Value.okWide Tryd.prog W .any base 22 v)
    (h : DataW.Trod enc Tryd.prog W 0 (fun _ => true) true 22 v d ps) :
    ∃ (N : Option Addr) (g o c : Nat) (ns : List Note), v = .slice N ns.length c ∧ Row W N g o ns.length 2 (notes ns) ∧ (∀ x, x ∈ ns → x.ok) ∧ ns.length ≤ 9223372036854775807 := by
  obtain ⟨A, len0, cap0, rfl⟩ : ∃ a len cap, v = .slice a len cap := okWide_slice Tryd.underlying22 hval
  obtain ⟨fuel, hf⟩ := h
  rcases Deep.open_slice_pairs Tryd.underlying22 Tryd.underlying33 (by kernel_rfl) rfl rfl (by kernel_rfl) (by kernel_rfl) hf with ⟨hc, hx⟩ | ⟨a, len, cap, m, n, V0, V1, D0, D1, P0, P1, hc, _, hl, hm, hmm, hx, hall⟩
  · simp only [Value.cells, List.cons.injEq, and_true, Value.slice.injEq] at hc
    obtain ⟨rfl, rfl, rfl⟩ := hc
    exact ⟨none, 0, 0, 0, [], rfl, Row.nil _ _ _ _ _, by simp, by simp⟩
  · simp only [Value.cells, List.cons.injEq, and_true, Value.slice.injEq] at hc
    obtain ⟨rfl, rfl, rfl⟩ := hc
    have hlm : len0 ≤ m := by rw [hmm]; split <;> omega
    have each : ∀ i, i < len0 → V0 i = .int .i64 (noteOf (V0 i) (V1 i)).a ∧ V1 i = .string ⟨(noteOf (V0 i) (V1 i)).t.toArray⟩ ∧ (noteOf (V0 i) (V1 i)).ok := by
      intro i hi
      obtain ⟨_, _, t0, t1⟩ := hall i (by omega)
      obtain ⟨z, h1, _, hw⟩ := DataW.trod_int Tryd.underlying3 t0
      obtain ⟨s, h2, _, hs⟩ := DataW.trod_string Tryd.underlying9 t1
      simp only [List.cons.injEq, and_true] at h1 h2
      rw [h1, h2]
      simp [Lit.wf, IntKind.min, IntKind.max, IntKind.signed, IntKind.bits] at hw
      unfold maxLen at hs
      refine ⟨rfl, rfl, ?_, ?_, ?_⟩
      · show _ ≤ z
        omega
      · show z ≤ _
        omega
      · show s.data.toList.length ≤ _
        rw [Array.length_toList]
        exact Nat.le_trans hs (by decide)
    have hlen : ((List.range len0).map fun i => noteOf (V0 i) (V1 i)).length = len0 := by simp
    have hget : ∀ i, i < len0 → ((List.range len0).map fun i => noteOf (V0 i) (V1 i)).getD i Note.zero = noteOf (V0 i) (V1 i) := by
      intro i hi
      simp [List.getD, hi]
    refine ⟨some a, a.block, a.off, cap0, (List.range len0).map fun i => noteOf (V0 i) (V1 i), by rw [hlen], ⟨by rw [notes_len], ?_⟩, ?_, ?_⟩
    · by_cases h0 : len0 = 0
      · subst h0; exact .inl rfl
      · obtain ⟨ab, ao, asp⟩ := a
        have hspot : asp = none := by simpa [Addr.add] using World.cell?_spot (hall 0 (by omega)).1
        subst hspot
        have hadd : ∀ j, (⟨ab, ao, none⟩ : Addr).add j = ⟨ab, ao + j, none⟩ := fun j => addr_add _ _ _
        refine .inr ⟨rfl, fun j hj => ?_⟩
        rw [notes_len, hlen] at hj
        have hi : j / 2 < len0 := by omega
        obtain ⟨e0, e1, _⟩ := each (j / 2) hi
        obtain ⟨c0, c1, _, _⟩ := hall (j / 2) (by omega)
        have hk := notes_k ((List.range len0).map fun i => noteOf (V0 i) (V1 i)) (j / 2) (j % 2) (by rw [hlen]; exact hi) (by omega)
        rw [hget _ hi, show j / 2 * 2 + j % 2 = j by omega] at hk
        rw [hk]
        rcases (by omega : j % 2 = 0 ∨ j % 2 = 1) with hz | hz
        · rw [hz]
          show _ = some (Value.int .i64 (noteOf (V0 (j / 2)) (V1 (j / 2))).a)
          rw [hadd, show j / 2 * 2 = j by omega] at c0
          rw [← e0]
          exact c0
        · rw [hz]
          show _ = some (Value.string ⟨(noteOf (V0 (j / 2)) (V1 (j / 2))).t.toArray⟩)
          rw [hadd, show j / 2 * 2 + 1 = j by omega] at c1
          rw [← e1]
          exact c1
    · intro x hx
      obtain ⟨i, hi, rfl⟩ := List.mem_map.1 hx
      exact (each i (List.mem_range.1 hi)).2.2
    · rw [hlen]
      unfold maxLen at hm
      omega
def setRow (cs : List Value) : Obj → Obj
  | .cells _ t frozen => .cells cs.toArray t frozen
  | o => o
noncomputable def laidWorld (os : Os) : World :=
  { World.holding Tryd.prog os ⟨#[], #[], []⟩ with heap := ((((World.holding Tryd.prog os ⟨#[], #[], []⟩).heap.modify 0 (setRow [.int .u32 1116352408, .int .u32 1899447441, .int .u32 3049323471, .int .u32 3921009573, .int .u32 961987163, .int .u32 1508970993, .int .u32 2453635748, .int .u32 2870763221, .int .u32 3624381080, .int .u32 310598401, .int .u32 607225278, .int .u32 1426881987, .int .u32 1925078388, .int .u32 2162078206, .int .u32 2614888103, .int .u32 3248222580, .int .u32 3835390401, .int .u32 4022224774, .int .u32 264347078, .int .u32 604807628, .int .u32 770255983, .int .u32 1249150122, .int .u32 1555081692, .int .u32 1996064986, .int .u32 2554220882, .int .u32 2821834349, .int .u32 2952996808, .int .u32 3210313671, .int .u32 3336571891, .int .u32 3584528711, .int .u32 113926993, .int .u32 338241895, .int .u32 666307205, .int .u32 773529912, .int .u32 1294757372, .int .u32 1396182291, .int .u32 1695183700, .int .u32 1986661051, .int .u32 2177026350, .int .u32 2456956037, .int .u32 2730485921, .int .u32 2820302411, .int .u32 3259730800, .int .u32 3345764771, .int .u32 3516065817, .int .u32 3600352804, .int .u32 4094571909, .int .u32 275423344, .int .u32 430227734, .int .u32 506948616, .int .u32 659060556, .int .u32 883997877, .int .u32 958139571, .int .u32 1322822218, .int .u32 1537002063, .int .u32 1747873779, .int .u32 1955562222, .int .u32 2024104815, .int .u32 2227730452, .int .u32 2361852424, .int .u32 2428436474, .int .u32 2756734187, .int .u32 3204031479, .int .u32 3329325298])).modify 1 (setRow [.int .u64 1, .int .u64 10, .int .u64 100, .int .u64 1000, .int .u64 10000, .int .u64 100000, .int .u64 1000000, .int .u64 10000000, .int .u64 100000000, .int .u64 1000000000, .int .u64 10000000000, .int .u64 100000000000, .int .u64 1000000000000, .int .u64 10000000000000, .int .u64 100000000000000, .int .u64 1000000000000000, .int .u64 10000000000000000, .int .u64 100000000000000000, .int .u64 1000000000000000000, .int .u64 10000000000000000000])).modify 2 (setRow [.int .u8 0, .int .u8 1, .int .u8 28, .int .u8 2, .int .u8 29, .int .u8 14, .int .u8 24, .int .u8 3, .int .u8 30, .int .u8 22, .int .u8 20, .int .u8 15, .int .u8 25, .int .u8 17, .int .u8 4, .int .u8 8, .int .u8 31, .int .u8 27, .int .u8 13, .int .u8 23, .int .u8 21, .int .u8 19, .int .u8 16, .int .u8 7, .int .u8 26, .int .u8 12, .int .u8 18, .int .u8 6, .int .u8 11, .int .u8 5, .int .u8 10, .int .u8 9])).modify 3 (setRow [.int .u8 0, .int .u8 1, .int .u8 56, .int .u8 2, .int .u8 57, .int .u8 49, .int .u8 28, .int .u8 3, .int .u8 61, .int .u8 58, .int .u8 42, .int .u8 50, .int .u8 38, .int .u8 29, .int .u8 17, .int .u8 4, .int .u8 62, .int .u8 47, .int .u8 59, .int .u8 36, .int .u8 45, .int .u8 43, .int .u8 51, .int .u8 22, .int .u8 53, .int .u8 39, .int .u8 33, .int .u8 30, .int .u8 24, .int .u8 18, .int .u8 12, .int .u8 5, .int .u8 63, .int .u8 55, .int .u8 48, .int .u8 27, .int .u8 60, .int .u8 41, .int .u8 37, .int .u8 16, .int .u8 46, .int .u8 35, .int .u8 44, .int .u8 21, .int .u8 52, .int .u8 32, .int .u8 23, .int .u8 11, .int .u8 54, .int .u8 26, .int .u8 40, .int .u8 15, .int .u8 34, .int .u8 20, .int .u8 31, .int .u8 10, .int .u8 25, .int .u8 14, .int .u8 19, .int .u8 9, .int .u8 13, .int .u8 8, .int .u8 7, .int .u8 6]) }
end Go.Proofs.YtojbephcahnbbaaDoor
