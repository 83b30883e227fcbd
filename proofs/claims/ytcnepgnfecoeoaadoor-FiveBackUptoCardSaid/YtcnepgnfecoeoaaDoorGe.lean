/- Small helpers of the statements. No condition. -/
import Derived.Test.YtcnepgnfecoeoaaDoorGd
import Derived.Test.YtcnepgnfecoeoaaDoorGMem4
import Derived.Test.YtcnepgnfecoeoaaDoorCome
import Derived.Test.YtcnepgnfecoeoaaDoorGeT
import Derived.Test.YtcnepgnfecoeoaaDoorProg
set_option linter.unusedVariables false
set_option linter.unusedSimpArgs false
namespace Go.Proofs.YtcnepgnfecoeoaaDoor
open Go Go.Proofs.GP Go.Proofs.Tryd
set_option maxHeartbeats 8000000 in
set_option maxRecDepth 100000 in
theorem among_ok (x : Int) (m : Nat) (w : World) (hm : 0 < m) (hm2 : m ≤ 9223372036854775807) :
    Calls Tryd.prog 15 #[.int .i64 x, .int .i64 ↑m] w fun e w' => ∃ k : Nat, e = .returned (.int .i64 ↑k) ∧ Fr [] w w' ∧ k < m := by
  refine c_start (args := [.int .i64 x, .int .i64 ↑m]) Tryd.func15 rfl rfl rfl ?_
  try simp only [enum, Nat.zero_add, Nat.reduceAdd]
  have hF0 := Fr.refl [] w
  refine c_seq ?_
  refine c_region ?_
  refine s_y (y_assign rfl) rfl rfl ?_
  refine s_nil ?_
  refine n_then ?_
  refine c_seq ?_
  refine c_region ?_
  refine s_y (y_move rfl) rfl rfl ?_
  refine s_y (y_conv (r := x % 18446744073709551616) Tryd.underlying3 Tryd.underlying105 rfl (wrap_u64 _)) rfl rfl ?_
  refine s_y (y_move rfl) rfl rfl ?_
  refine s_y (y_conv (r := ↑m) Tryd.underlying3 Tryd.underlying105 rfl (by rw [wrap_u64]; omega)) rfl rfl ?_
  refine s_y (y_rem (r := ↑(among x m)) rfl rfl (by omega) (among_rem x m hm)) rfl rfl ?_
  refine s_y (y_conv (r := ↑(among x m)) Tryd.underlying105 Tryd.underlying3 rfl (wrI (by omega) (by have := among_lt x m hm; omega))) rfl rfl ?_
  refine s_y (y_assign rfl) rfl rfl ?_
  refine s_nil ?_
  refine n_then ?_
  refine c_ret ?_
  refine fin1 (by simp) rfl rfl ?_
  exact ⟨among x m, rfl, hF0, among_lt x m hm⟩

set_option maxHeartbeats 8000000 in
set_option maxRecDepth 100000 in
theorem bytes_ok (A : Option Addr) (g o c : Nat) (b : By) (w : World) (hb : b.length ≤ 140737488355328) (hw : Row w A g o b.length 1 (b.map bv)) :
    Calls Tryd.prog 16 #[.slice A b.length c] w fun e w' => ∃ A' g' c', e = .returned (.slice A' b.length c') ∧ Fr [] w w' ∧ Own w' A' g' b.length c' 5 1 (b.map bv) ∧ (A' = none ∨ w.heap.size ≤ g') := by
  refine c_start (args := [.slice A b.length c]) Tryd.func16 rfl rfl rfl ?_
  try simp only [enum, Nat.zero_add, Nat.reduceAdd]
  have hF0 := Fr.refl [] w
  have lt_hw := hw.lt'
  refine c_seq ?_
  refine c_region ?_
  refine s_y (y_assign rfl) rfl rfl ?_
  refine s_nil ?_
  refine n_then ?_
  refine c_seq ?_
  refine c_region ?_
  have hlit1 := (T.lit12 )
  refine s_d (d_bs2 hlit1 trivial) rfl rfl ?_
  rintro _ w3 ⟨g2, rfl, hg6, b4, f5⟩
  have ne7 := row_ne_new hw hg6
  have nw8 := Nat.le_trans hF0.size hg6
  replace hw := hw.fr0 f5
  have hF9 := hF0.then0 f5
  have o10 := Own.of_blk (n := 0) (k := 1) b4 rfl (by decide)
  refine s_y (y_move rfl) rfl rfl ?_
  refine s_d (d_append Tryd.underlying22 T.ty5 T.app5 rfl o10 rfl (src_row Tryd.underlying22 T.ty5 hw ()) (ones (by first | exact all_bv _ | exact all_wv _ | exact rfl | simp [all_bv, all_u32])) (by omega)) rfl rfl ?_
  rintro _ w14 ⟨A11, g12, c13, rfl, o15, f16, hat17⟩
  obtain ⟨hno15⟩ : Nonempty (0 + b.length = b.length) := ⟨by simp⟩
  rw [hno15] at o15 ⊢
  replace hw := hw.fr f16 (nin ne7)
  have wh19 : A11 = none ∨ g12 ∈ ([] : List Nat) ∨ w.heap.size ≤ g12 := app_wh hat17 (.inr (.inr nw8)) hF9.size
  have hF20 := hF9.thenOwnIn f16 (.inr (.inr nw8))
  refine s_y (y_assign rfl) rfl rfl ?_
  refine s_nil ?_
  refine n_then ?_
  refine c_ret ?_
  refine fin1 (by simp) rfl rfl ?_
  exact ⟨_, _, _, rfl, hF20, (by simpa using o15), (by rcases (show _ ∨ _ ∈ ([] : List Nat) ∨ _ from wh19) with h | h | h; exact .inl h; cases h; exact .inr h)⟩

set_option maxHeartbeats 8000000 in
set_option maxRecDepth 100000 in
theorem like_f (g1 g2 : Nat) (er er2 : Er) (w : World) (h1 : FaultAt w 138 136 39 g1 er) (h2 : FaultAt w 138 136 39 g2 er2) :
    Calls Tryd.prog 19 #[.iface 136 (.pointer (some ⟨g1, 0, none⟩)), .iface 136 (.pointer (some ⟨g2, 0, none⟩))] w fun e w' => e = .returned (.bool (decide (er = er2))) ∧ Fr [] w w' := by
  refine c_start (args := [.iface 136 (.pointer (some ⟨g1, 0, none⟩)), .iface 136 (.pointer (some ⟨g2, 0, none⟩))]) Tryd.func19 rfl rfl rfl ?_
  try simp only [enum, Nat.zero_add, Nat.reduceAdd]
  have hF0 := Fr.refl [] w
  refine c_seq ?_
  refine c_region ?_
  refine s_y (y_assign rfl) rfl rfl ?_
  refine s_nil ?_
  refine n_then ?_
  refine c_seq ?_
  refine c_region ?_
  refine s_y (y_move rfl) rfl rfl ?_
  refine s_d (d_callR T.ent64 (vs := [.iface 136 (.pointer (some ⟨g2, 0, none⟩))]) rfl (of_f g2 er2 _ h2) (by rintro e w' ⟨rfl, -⟩; exact ⟨_, rfl⟩)) rfl rfl ?_
  rintro v3 w1 ⟨hv4, f2⟩
  obtain rfl := ret_inj hv4
  replace h1 := h1.fr0 f2
  replace h2 := h2.fr0 f2
  have hF5 := hF0.then0 f2
  refine s_y (y_move rfl) rfl rfl ?_
  refine s_y (y_extract rfl rfl) rfl rfl ?_
  refine s_y (y_extract rfl rfl) rfl rfl ?_
  refine s_d (d_alloc (cs := [.int .i64 0, .string ⟨[].toArray⟩, .string ⟨[].toArray⟩, .string ⟨[].toArray⟩, .string ⟨[].toArray⟩, .int .i64 0, .int .i64 0, .int .i64 0, .int .i64 0, .int .i64 0]) T.zero41 rfl) rfl rfl ?_
  rintro _ w7 ⟨g6, rfl, hg10, b8, f9⟩
  have nw11 := Nat.le_trans hF5.size hg10
  replace h1 := h1.fr0 f9
  replace h2 := h2.fr0 f9
  have hF12 := hF5.then0 f9
  refine s_d (d_store (cs := [.int .i64 er2.N, .string ⟨er2.l0.toArray⟩, .string ⟨er2.l1.toArray⟩, .string ⟨([] : List UInt8).toArray⟩, .string ⟨([] : List UInt8).toArray⟩, .int .i64 er2.a0, .int .i64 er2.a1, .int .i64 0, .int .i64 0, .int .i64 er2.c]) (l' := [.int .i64 er2.N, .string ⟨er2.l0.toArray⟩, .string ⟨er2.l1.toArray⟩, .string ⟨([] : List UInt8).toArray⟩, .string ⟨([] : List UInt8).toArray⟩, .int .i64 er2.a0, .int .i64 er2.a1, .int .i64 0, .int .i64 0, .int .i64 er2.c]) T.ty41 rfl rfl b8 rfl rfl (ones rfl) (Nat.le_of_ble_eq_true rfl) rfl) rfl rfl ?_
  rintro _ w13 ⟨rfl, b14, f15⟩
  replace h1 := h1.fr f15 (nf_cons (nf_blk b8 (by decide)) (nf_nil _ _))
  replace h2 := h2.fr f15 (nf_cons (nf_blk b8 (by decide)) (nf_nil _ _))
  clear b8
  have hF16 := hF12.thenNew f15 nw11
  refine s_y (y_assign rfl) rfl rfl ?_
  refine s_nil ?_
  refine n_then ?_
  refine c_seq ?_
  refine c_region ?_
  refine s_y (y_move rfl) rfl rfl ?_
  refine s_y (y_move rfl) rfl rfl ?_
  refine s_gy (y_move rfl) ⟨_, _, _, _, rfl, rfl, rfl, rfl⟩ rfl ?_
  refine s_gy (y_ldBA (xs := [.int .i64 er2.N, .string ⟨er2.l0.toArray⟩, .string ⟨er2.l1.toArray⟩, .string ⟨([] : List UInt8).toArray⟩, .string ⟨([] : List UInt8).toArray⟩, .int .i64 er2.a0, .int .i64 er2.a1, .int .i64 0, .int .i64 0, .int .i64 er2.c]) T.ty41 rfl b14 rfl rfl) ⟨_, _, _, _, rfl, rfl, rfl, rfl⟩ rfl ?_
  refine s_gd (d_callR T.ent17 (vs := [.iface 136 (.pointer (some ⟨g1, 0, none⟩)), _]) rfl (is_f g1 er er2 _ h1) (by rintro e w' ⟨rfl, -⟩; exact ⟨_, rfl⟩)) ⟨_, _, _, _, rfl, rfl, rfl, rfl⟩ rfl ?_
  rintro v19 w17 ⟨hv20, f18⟩
  obtain rfl := ret_inj hv20
  replace h1 := h1.fr0 f18
  replace h2 := h2.fr0 f18
  replace b14 := b14.fr0 f18
  have hF21 := hF16.then0 f18
  refine s_y (y_pick rfl rfl rfl rfl) rfl rfl ?_
  refine s_y (y_assign rfl) rfl rfl ?_
  refine s_nil ?_
  refine n_then ?_
  refine c_ret ?_
  refine fin1 (by simp) rfl rfl ?_
  exact ⟨rfl, hF21⟩

end Go.Proofs.YtcnepgnfecoeoaaDoor
