/- The audit log: made, copied. No condition. -/
import Derived.Test.YtojbephcahnbbaaDoorEq
import Derived.Test.YtojbephcahnbbaaDoorA
import Derived.Test.YtojbephcahnbbaaDoorI
import Derived.Test.YtojbephcahnbbaaDoorJT
import Derived.Test.YtojbephcahnbbaaDoorProg
set_option linter.unusedVariables false
set_option linter.unusedSimpArgs false
namespace Go.Proofs.YtojbephcahnbbaaDoor
open Go Go.Proofs.GP Go.Proofs.Tryd
set_option maxRecDepth 100000 in
theorem new7_ok  (w : World) :
    Calls Tryd.prog 7 #[] w fun e w' => ∃ p, e = .returned (.pointer (some ⟨p, 0, none⟩)) ∧ Fr [] w w' ∧ w.heap.size ≤ p ∧ Blk w' p 39 [.slice none 0 0, .bool true] := by
  refine c_start (args := []) Tryd.func7 rfl rfl rfl ?_
  try simp only [enum, Nat.zero_add, Nat.reduceAdd]
  have hF0 := Fr.refl [] w
  refine c_seq ?_
  refine c_region ?_
  refine s_y (y_assign rfl) rfl rfl ?_
  refine s_nil ?_
  refine n_then ?_
  refine c_seq ?_
  refine c_region ?_
  refine s_y (y_build (vs := [(1, .bool true)]) rfl (T.lit7 true _)) rfl rfl ?_
  refine s_d (d_box (cs := [.slice none 0 0, .bool true]) rfl rfl) rfl rfl ?_
  rintro _ w2 ⟨g1, rfl, hg5, b3, f4⟩
  have nw6 := Nat.le_trans hF0.size hg5
  have hF7 := hF0.then0 f4
  refine s_y (y_assign rfl) rfl rfl ?_
  refine s_nil ?_
  refine n_then ?_
  refine c_ret ?_
  refine fin1 (by simp) rfl rfl ?_
  exact ⟨_, rfl, hF7, nw6, b3⟩

set_option maxRecDepth 100000 in
theorem clone25_ok (A : Option Addr) (g o c : Nat) (es : List Ent) (w : World) (hl : es.length ≤ 1000000) (hr : Row w A g o es.length 34 (ents es)) :
    Calls Tryd.prog 25 #[.slice A es.length c] w fun e w' => ∃ A' g' c', e = .returned (.slice A' es.length c') ∧ Fr [] w w' ∧ Own w' A' g' es.length c' 28 34 (ents es) ∧ (A' = none ∨ w.heap.size ≤ g') := by
  refine c_start (args := [.slice A es.length c]) Tryd.func25 rfl rfl rfl ?_
  try simp only [enum, Nat.zero_add, Nat.reduceAdd]
  have hF0 := Fr.refl [] w
  have lt_hr := hr.lt'
  refine c_seq ?_
  refine c_region ?_
  refine s_y (y_assign rfl) rfl rfl ?_
  refine s_nil ?_
  refine n_then ?_
  refine c_seq ?_
  refine c_seq ?_
  refine c_region ?_
  refine s_y (y_move rfl) rfl rfl ?_
  refine s_y (y_snil Tryd.underlying25 rfl rfl) rfl rfl ?_
  refine s_nil ?_
  refine n_then ?_
  refine c_cond rfl ?_ ?_
  · intro h1
    replace h1 : A = none := by simpa using h1
    refine c_seq ?_
    refine c_region ?_
    refine s_y (y_assign rfl) rfl rfl ?_
    refine s_nil ?_
    refine n_then ?_
    refine c_ret ?_
    refine r_then ?_
    refine fin1 (by simp) rfl rfl ?_
    have hes : es = [] := row_none hr ‹A = none›
    subst hes
    exact ⟨none, w.heap.size, 0, rfl, hF0, Own.nil _ _ _ _, .inl rfl⟩
  · intro h2
    refine c_skip ?_
    refine n_then ?_
    refine c_seq ?_
    refine c_region ?_
    have hlit3 := (T.lit8 )
    refine s_d (d_bs2 hlit3 trivial) rfl rfl ?_
    rintro _ w5 ⟨g4, rfl, hg8, b6, f7⟩
    have ne9 := row_ne_new hr hg8
    have nw10 := Nat.le_trans hF0.size hg8
    replace hr := hr.fr0 f7
    have hF11 := hF0.then0 f7
    have o12 := Own.of_blk (n := 0) (k := 34) b6 rfl (by decide)
    refine s_y (y_move rfl) rfl rfl ?_
    refine s_d (d_append Tryd.underlying25 T.ty28 T.app28 rfl o12 rfl (src_row Tryd.underlying25 T.ty28 hr ()) (ones (by first | exact all_bv _ | exact all_wv _ | exact rfl | simp [all_bv, all_u32, all_ent, all_dig, all_ents])) (by omega)) rfl rfl ?_
    rintro _ w16 ⟨A13, g14, c15, rfl, o17, f18, hat19⟩
    obtain ⟨hno17⟩ : Nonempty (0 + es.length = es.length) := ⟨by simp⟩
    rw [hno17] at o17 ⊢
    replace hr := hr.fr f18 (nin ne9)
    have wh21 : A13 = none ∨ g14 ∈ ([] : List Nat) ∨ w.heap.size ≤ g14 := app_wh hat19 (.inr (.inr nw10)) hF11.size
    have hF22 := hF11.thenOwnIn f18 (.inr (.inr nw10))
    refine s_y (y_assign rfl) rfl rfl ?_
    refine s_nil ?_
    refine n_then ?_
    refine c_ret ?_
    refine fin1 (by simp) rfl rfl ?_
    exact ⟨_, _, _, rfl, hF22, (by simpa using o17), (by rcases wh21 with h | h | h; exact .inl h; exact absurd h (by simp); exact .inr h)⟩

set_option maxRecDepth 100000 in
theorem clone8_ok (p g c : Nat) (A : Option Addr) (es : List Ent) (w : World) (hl : es.length ≤ 4096) (hp : Blk w p 39 [.slice A es.length c, .bool true]) (ho : Own w A g es.length c 28 34 (ents es)) :
    Calls Tryd.prog 8 #[.pointer (some ⟨p, 0, none⟩)] w fun e w' => ∃ p' A' g' c', e = .returned (.pointer (some ⟨p', 0, none⟩)) ∧ Fr [] w w' ∧ w.heap.size ≤ p' ∧ Blk w' p' 39 [.slice A' es.length c', .bool true] ∧ Own w' A' g' es.length c' 28 34 (ents es) ∧ w.heap.size ≤ g' ∧ g' ≠ p' := by
  refine c_start (args := [.pointer (some ⟨p, 0, none⟩)]) Tryd.func8 rfl rfl rfl ?_
  try simp only [enum, Nat.zero_add, Nat.reduceAdd]
  have hF0 := Fr.refl [] w
  have lt_hp := hp.lt
  refine c_seq ?_
  refine c_region ?_
  refine s_y (y_assign rfl) rfl rfl ?_
  refine s_nil ?_
  refine n_then ?_
  refine c_seq ?_
  refine c_seq ?_
  refine c_region ?_
  refine s_y (y_move rfl) rfl rfl ?_
  refine s_y (y_pn Tryd.underlying23 rfl rfl) rfl rfl ?_
  refine s_y (y_move rfl) rfl rfl ?_
  refine s_gy (y_move rfl) ⟨_, _, _, _, rfl, rfl, rfl, rfl⟩ rfl ?_
  refine s_gy (y_nilCheck rfl) ⟨_, _, _, _, rfl, rfl, rfl, rfl⟩ rfl ?_
  refine s_gy (y_field rfl T.fld39_1 rfl) ⟨_, _, _, _, rfl, rfl, rfl, rfl⟩ rfl ?_
  refine s_gy (y_ldB (v := .bool true) T.ty4 rfl hp rfl) ⟨_, _, _, _, rfl, rfl, rfl, rfl⟩ rfl ?_
  refine s_gy (y_not rfl rfl) ⟨_, _, _, _, rfl, rfl, rfl, rfl⟩ rfl ?_
  refine s_y (y_pick rfl rfl rfl rfl) rfl rfl ?_
  refine s_nil ?_
  refine n_then ?_
  refine c_false rfl ?_
  refine c_skip ?_
  refine n_then ?_
  refine c_seq ?_
  refine c_region ?_
  refine s_y (y_move rfl) rfl rfl ?_
  refine s_y (y_nilCheck rfl) rfl rfl ?_
  refine s_y (y_field rfl T.fld39_0 rfl) rfl rfl ?_
  refine s_y (y_ldB (v := .slice A es.length c) T.ty25 rfl hp rfl) rfl rfl ?_
  refine s_d (d_callR T.ent25 (vs := [.slice A es.length c]) rfl (clone25_ok A g 0 c es _ (by omega) ho.row) (by rintro e w' ⟨_, _, _, rfl, -⟩; exact ⟨_, rfl⟩)) rfl rfl ?_
  rintro v8 w6 ⟨A1, g2, c3, hv9, f7, o4, wh5⟩
  obtain rfl := ret_inj hv9
  replace hp := hp.fr0 f7
  replace ho := ho.fr0 f7
  have hF10 := hF0.then0 f7
  obtain ⟨g11, o12, hg13, hn14⟩ := own_pick o4 wh5 f7.size
  replace hg13 := Nat.le_trans hF0.size hg13
  have ne15 : g11 ≠ p := hn14 _ _ _ hp (by decide)
  refine s_y (y_build (vs := [(0, .slice A1 es.length c3), (1, .bool true)]) rfl (T.lit9 A1 es.length c3 true _)) rfl rfl ?_
  refine s_d (d_box (cs := [.slice A1 es.length c3, .bool true]) rfl rfl) rfl rfl ?_
  rintro _ w17 ⟨g16, rfl, hg20, b18, f19⟩
  have ne21 : p ≠ g16 := Nat.ne_of_lt (Nat.lt_of_lt_of_le hp.lt hg20)
  have ne22 := ho.ne_new hg20
  have ne23 := o12.ne_new hg20
  have nw24 := Nat.le_trans hF10.size hg20
  replace hp := hp.fr0 f19
  replace ho := ho.fr0 f19
  replace o12 := o12.fr0 f19
  have hF25 := hF10.then0 f19
  refine s_y (y_assign rfl) rfl rfl ?_
  refine s_nil ?_
  refine n_then ?_
  refine c_ret ?_
  refine fin1 (by simp) rfl rfl ?_
  obtain ⟨gz, oz, hgz, hnz⟩ := own_pick o12 (.inr hg13) hF25.size
  exact ⟨_, _, _, _, rfl, hF25, nw24, b18, oz, hgz, hnz _ _ _ b18 (by decide)⟩

set_option maxRecDepth 100000 in
theorem entries_ok (p g c : Nat) (A : Option Addr) (es : List Ent) (w : World) (hl : es.length ≤ 4096) (hp : Blk w p 39 [.slice A es.length c, .bool true]) (ho : Own w A g es.length c 28 34 (ents es)) :
    Calls Tryd.prog 11 #[.pointer (some ⟨p, 0, none⟩)] w fun e w' => ∃ A' g' c', e = .returned (.slice A' es.length c') ∧ Fr [] w w' ∧ Own w' A' g' es.length c' 28 34 (ents es) ∧ w.heap.size ≤ g' := by
  refine c_start (args := [.pointer (some ⟨p, 0, none⟩)]) Tryd.func11 rfl rfl rfl ?_
  try simp only [enum, Nat.zero_add, Nat.reduceAdd]
  have hF0 := Fr.refl [] w
  have lt_hp := hp.lt
  refine c_seq ?_
  refine c_region ?_
  refine s_y (y_assign rfl) rfl rfl ?_
  refine s_nil ?_
  refine n_then ?_
  refine c_seq ?_
  refine c_seq ?_
  refine c_region ?_
  refine s_y (y_move rfl) rfl rfl ?_
  refine s_y (y_pn Tryd.underlying23 rfl rfl) rfl rfl ?_
  refine s_nil ?_
  refine n_then ?_
  refine c_false rfl ?_
  refine c_skip ?_
  refine n_then ?_
  refine c_seq ?_
  refine c_region ?_
  refine s_y (y_move rfl) rfl rfl ?_
  refine s_y (y_nilCheck rfl) rfl rfl ?_
  refine s_y (y_field rfl T.fld39_0 rfl) rfl rfl ?_
  refine s_y (y_ldB (v := .slice A es.length c) T.ty25 rfl hp rfl) rfl rfl ?_
  refine s_d (d_callR T.ent25 (vs := [.slice A es.length c]) rfl (clone25_ok A g 0 c es _ (by omega) ho.row) (by rintro e w' ⟨_, _, _, rfl, -⟩; exact ⟨_, rfl⟩)) rfl rfl ?_
  rintro v8 w6 ⟨A1, g2, c3, hv9, f7, o4, wh5⟩
  obtain rfl := ret_inj hv9
  replace hp := hp.fr0 f7
  replace ho := ho.fr0 f7
  have hF10 := hF0.then0 f7
  obtain ⟨g11, o12, hg13, hn14⟩ := own_pick o4 wh5 f7.size
  replace hg13 := Nat.le_trans hF0.size hg13
  have ne15 : g11 ≠ p := hn14 _ _ _ hp (by decide)
  refine s_y (y_assign rfl) rfl rfl ?_
  refine s_nil ?_
  refine n_then ?_
  refine c_ret ?_
  refine fin1 (by simp) rfl rfl ?_
  exact ⟨_, _, _, rfl, hF10, o12, hg13⟩

set_option maxRecDepth 100000 in
theorem entriesN_ok  (w : World) :
    Calls Tryd.prog 11 #[.pointer none] w fun e w' => e = .returned (.slice none 0 0) ∧ Fr [] w w' := by
  refine c_start (args := [.pointer none]) Tryd.func11 rfl rfl rfl ?_
  try simp only [enum, Nat.zero_add, Nat.reduceAdd]
  have hF0 := Fr.refl [] w
  refine c_seq ?_
  refine c_region ?_
  refine s_y (y_assign rfl) rfl rfl ?_
  refine s_nil ?_
  refine n_then ?_
  refine c_seq ?_
  refine c_seq ?_
  refine c_region ?_
  refine s_y (y_move rfl) rfl rfl ?_
  refine s_y (y_nn Tryd.underlying23 rfl rfl) rfl rfl ?_
  refine s_nil ?_
  refine n_then ?_
  refine c_true rfl ?_
  refine c_seq ?_
  refine c_region ?_
  refine s_y (y_assign rfl) rfl rfl ?_
  refine s_nil ?_
  refine n_then ?_
  refine c_ret ?_
  refine r_then ?_
  refine fin1 (by simp) rfl rfl ?_
  exact ⟨rfl, hF0⟩

set_option maxRecDepth 100000 in
theorem head_ok (p g c : Nat) (A : Option Addr) (es : List Ent) (w : World) (hl : es.length ≤ 4096) (hp : Blk w p 39 [.slice A es.length c, .bool true]) (ho : Own w A g es.length c 28 34 (ents es)) :
    Calls Tryd.prog 13 #[.pointer (some ⟨p, 0, none⟩)] w fun e w' => e = .returned (.agg (lastE es).sum.cells.toArray) ∧ Fr [] w w' := by
  refine c_start (args := [.pointer (some ⟨p, 0, none⟩)]) Tryd.func13 rfl rfl rfl ?_
  try simp only [enum, Nat.zero_add, Nat.reduceAdd]
  have hF0 := Fr.refl [] w
  have lt_hp := hp.lt
  refine c_seq ?_
  refine c_region ?_
  refine s_d (d_alloc (cs := Dig.zero.cells) T.zero26 rfl) rfl rfl ?_
  rintro _ w2 ⟨g1, rfl, hg5, b3, f4⟩
  have ne6 : p ≠ g1 := Nat.ne_of_lt (Nat.lt_of_lt_of_le hp.lt hg5)
  have ne7 := ho.ne_new hg5
  have nw8 := Nat.le_trans hF0.size hg5
  replace hp := hp.fr0 f4
  replace ho := ho.fr0 f4
  have hF9 := hF0.then0 f4
  refine s_nil ?_
  refine n_then ?_
  refine c_seq ?_
  refine c_seq ?_
  refine c_region ?_
  refine s_y (y_move rfl) rfl rfl ?_
  refine s_y (y_pn Tryd.underlying23 rfl rfl) rfl rfl ?_
  refine s_nil ?_
  refine n_then ?_
  refine c_false rfl ?_
  refine c_skip ?_
  refine n_then ?_
  refine c_seq ?_
  refine c_region ?_
  refine s_y (y_move rfl) rfl rfl ?_
  refine s_y (y_nilCheck rfl) rfl rfl ?_
  refine s_y (y_field rfl T.fld39_0 rfl) rfl rfl ?_
  refine s_y (y_ldB (v := .slice A es.length c) T.ty25 rfl hp rfl) rfl rfl ?_
  refine s_d (d_callR T.ent27 (vs := [.slice A es.length c]) rfl (last_ok A g 0 c es _ (by omega) ho.row) (by rintro e w' ⟨rfl, -⟩; exact ⟨_, rfl⟩)) rfl rfl ?_
  rintro v12 w10 ⟨hv13, f11⟩
  obtain rfl := ret_inj hv13
  replace hp := hp.fr0 f11
  replace ho := ho.fr0 f11
  replace b3 := b3.fr0 f11
  have hF14 := hF9.then0 f11
  refine s_y (y_fieldA (xs := (((lastE es).sum).cells)) T.flv28_2 T.ty26 rfl (take_all (((lastE es).sum).cells) (by simp [Dig.len]))) rfl rfl ?_
  refine s_d (d_store (cs := (((lastE es).sum).cells)) (l' := (((lastE es).sum).cells)) T.ty26 rfl rfl b3 rfl (by simp [Dig.len]) (ones (by simp [all_bv, all_u32, all_ent, all_dig, all_ents])) (by simp [Dig.len, Dig.len]) (setL_all (by simp [Dig.len, Dig.len]))) rfl rfl ?_
  rintro _ w15 ⟨rfl, b16, f17⟩
  replace hp := hp.fr1 f17 ne6
  replace ho := ho.fr1 f17 ne7
  clear b3
  have hF18 := hF14.thenNew f17 nw8
  refine s_nil ?_
  refine n_then ?_
  refine c_ret ?_
  refine fin1 (by simp) rfl (rv_A (xs := (((lastE es).sum).cells)) T.ty26 rfl b16 (by simp [Dig.len]) (take_all _ (by simp [Dig.len]))) ?_
  exact ⟨rfl, hF18⟩

set_option maxRecDepth 100000 in
theorem headN_ok  (w : World) :
    Calls Tryd.prog 13 #[.pointer none] w fun e w' => e = .returned (.agg Dig.zero.cells.toArray) ∧ Fr [] w w' := by
  refine c_start (args := [.pointer none]) Tryd.func13 rfl rfl rfl ?_
  try simp only [enum, Nat.zero_add, Nat.reduceAdd]
  have hF0 := Fr.refl [] w
  refine c_seq ?_
  refine c_region ?_
  refine s_d (d_alloc (cs := Dig.zero.cells) T.zero26 rfl) rfl rfl ?_
  rintro _ w2 ⟨g1, rfl, hg5, b3, f4⟩
  have nw6 := Nat.le_trans hF0.size hg5
  have hF7 := hF0.then0 f4
  refine s_nil ?_
  refine n_then ?_
  refine c_seq ?_
  refine c_seq ?_
  refine c_region ?_
  refine s_y (y_move rfl) rfl rfl ?_
  refine s_y (y_nn Tryd.underlying23 rfl rfl) rfl rfl ?_
  refine s_nil ?_
  refine n_then ?_
  refine c_true rfl ?_
  refine c_seq ?_
  refine c_region ?_
  refine s_y (y_build (vs := []) rfl (T.bz26 _)) rfl rfl ?_
  refine s_d (d_store (cs := Dig.zero.cells) (l' := Dig.zero.cells) T.ty26 rfl rfl b3 rfl (by simp [Dig.len]) (ones (by simp [all_bv, all_u32, all_ent, all_dig, all_ents])) (by simp [Dig.len, Dig.len]) (setL_all (by simp [Dig.len, Dig.len]))) rfl rfl ?_
  rintro _ w8 ⟨rfl, b9, f10⟩
  clear b3
  have hF11 := hF7.thenNew f10 nw6
  refine s_nil ?_
  refine n_then ?_
  refine c_ret ?_
  refine r_then ?_
  refine fin1 (by simp) rfl (rv_A (xs := Dig.zero.cells) T.ty26 rfl b9 (by simp [Dig.len]) (take_all _ (by simp [Dig.len]))) ?_
  exact ⟨rfl, hF11⟩

set_option maxRecDepth 100000 in
theorem clone8N_ok  (w : World) :
    Calls Tryd.prog 8 #[.pointer none] w fun e w' => e = .returned (.pointer none) ∧ Fr [] w w' := by
  refine c_start (args := [.pointer none]) Tryd.func8 rfl rfl rfl ?_
  try simp only [enum, Nat.zero_add, Nat.reduceAdd]
  have hF0 := Fr.refl [] w
  refine c_seq ?_
  refine c_region ?_
  refine s_y (y_assign rfl) rfl rfl ?_
  refine s_nil ?_
  refine n_then ?_
  refine c_seq ?_
  refine c_seq ?_
  refine c_region ?_
  refine s_y (y_move rfl) rfl rfl ?_
  refine s_y (y_nn Tryd.underlying23 rfl rfl) rfl rfl ?_
  refine s_y (y_move rfl) rfl rfl ?_
  refine s_skip ⟨_, _, _, _, rfl, rfl, rfl, rfl⟩ rfl ?_
  refine s_skip ⟨_, _, _, _, rfl, rfl, rfl, rfl⟩ rfl ?_
  refine s_skip ⟨_, _, _, _, rfl, rfl, rfl, rfl⟩ rfl ?_
  refine s_skip ⟨_, _, _, _, rfl, rfl, rfl, rfl⟩ rfl ?_
  refine s_skip ⟨_, _, _, _, rfl, rfl, rfl, rfl⟩ rfl ?_
  refine s_y (y_pick rfl rfl rfl rfl) rfl rfl ?_
  refine s_nil ?_
  refine n_then ?_
  refine c_true rfl ?_
  refine c_seq ?_
  refine c_region ?_
  refine s_y (y_assign rfl) rfl rfl ?_
  refine s_nil ?_
  refine n_then ?_
  refine c_ret ?_
  refine r_then ?_
  refine fin1 (by simp) rfl rfl ?_
  exact ⟨rfl, hF0⟩

set_option maxRecDepth 100000 in
theorem clone8C_ok (p n c : Nat) (A : Option Addr) (w : World) (hp : Blk w p 39 [.slice A n c, .bool false]) :
    Calls Tryd.prog 8 #[.pointer (some ⟨p, 0, none⟩)] w fun e w' => e = .returned (.pointer none) ∧ Fr [] w w' := by
  refine c_start (args := [.pointer (some ⟨p, 0, none⟩)]) Tryd.func8 rfl rfl rfl ?_
  try simp only [enum, Nat.zero_add, Nat.reduceAdd]
  have hF0 := Fr.refl [] w
  have lt_hp := hp.lt
  refine c_seq ?_
  refine c_region ?_
  refine s_y (y_assign rfl) rfl rfl ?_
  refine s_nil ?_
  refine n_then ?_
  refine c_seq ?_
  refine c_seq ?_
  refine c_region ?_
  refine s_y (y_move rfl) rfl rfl ?_
  refine s_y (y_pn Tryd.underlying23 rfl rfl) rfl rfl ?_
  refine s_y (y_move rfl) rfl rfl ?_
  refine s_gy (y_move rfl) ⟨_, _, _, _, rfl, rfl, rfl, rfl⟩ rfl ?_
  refine s_gy (y_nilCheck rfl) ⟨_, _, _, _, rfl, rfl, rfl, rfl⟩ rfl ?_
  refine s_gy (y_field rfl T.fld39_1 rfl) ⟨_, _, _, _, rfl, rfl, rfl, rfl⟩ rfl ?_
  refine s_gy (y_ldB (v := .bool false) T.ty4 rfl hp rfl) ⟨_, _, _, _, rfl, rfl, rfl, rfl⟩ rfl ?_
  refine s_gy (y_not rfl rfl) ⟨_, _, _, _, rfl, rfl, rfl, rfl⟩ rfl ?_
  refine s_y (y_pick rfl rfl rfl rfl) rfl rfl ?_
  refine s_nil ?_
  refine n_then ?_
  refine c_true rfl ?_
  refine c_seq ?_
  refine c_region ?_
  refine s_y (y_assign rfl) rfl rfl ?_
  refine s_nil ?_
  refine n_then ?_
  refine c_ret ?_
  refine r_then ?_
  refine fin1 (by simp) rfl rfl ?_
  exact ⟨rfl, hF0⟩

end Go.Proofs.YtojbephcahnbbaaDoor
