/- The audit log: a record added. No condition. -/
import Derived.Test.YtojbephcahnbbaaDoorJ
import Derived.Test.YtojbephcahnbbaaDoorKT
import Derived.Test.YtojbephcahnbbaaDoorProg
set_option linter.unusedVariables false
set_option linter.unusedSimpArgs false
namespace Go.Proofs.YtojbephcahnbbaaDoor
open Go Go.Proofs.GP Go.Proofs.Tryd
set_option maxRecDepth 100000 in
theorem add9_ok (p g c : Nat) (A : Option Addr) (es : List Ent) (a : Int) (t : List UInt8) (w : World) (h0 : -9223372036854775808 ≤ a) (h1 : a ≤ 9223372036854775807) (ht : t.length ≤ 9223372036854775807) (hl : es.length ≤ 4096) (hp4 : 4 ≤ p) (hg4 : 4 ≤ g) (hp : Blk w p 39 [.slice A es.length c, .bool true]) (ho : Own w A g es.length c 28 34 (ents es)) (hG : Gl w) :
    Calls Tryd.prog 9 #[.pointer (some ⟨p, 0, none⟩), .int .i64 a, .string ⟨t.toArray⟩] w fun e w' => ∃ A' g' c', e = .returned (.tuple #[.agg (addL es a t).1.cells.toArray, .int .i64 (addL es a t).2.1]) ∧ Fr [p, g] w w' ∧ Blk w' p 39 [.slice A' (addL es a t).2.2.length c', .bool true] ∧ Own w' A' g' (addL es a t).2.2.length c' 28 34 (ents (addL es a t).2.2) ∧ (A' = none ∨ g' ∈ ([p, g] : List Nat) ∨ w.heap.size ≤ g') := by
  have hz4 : 4 ≤ w.heap.size := hG.s
  refine c_start (args := [.pointer (some ⟨p, 0, none⟩), .int .i64 a, .string ⟨t.toArray⟩]) Tryd.func9 rfl rfl rfl ?_
  try simp only [enum, Nat.zero_add, Nat.reduceAdd]
  have hF0 := Fr.refl [p, g] w
  have lt_hp := hp.lt
  refine c_seq ?_
  refine c_region ?_
  refine s_d (d_alloc (cs := ([.int .i64 0, .string ⟨([] : List UInt8).toArray⟩] : List Value) ++ Dig.zero.cells) T.zero28 rfl) rfl rfl ?_
  rintro _ w2 ⟨g1, rfl, hg5, b3, f4⟩
  have ne6 : p ≠ g1 := Nat.ne_of_lt (Nat.lt_of_lt_of_le hp.lt hg5)
  have ne7 := ho.ne_new hg5
  have nw8 := Nat.le_trans hF0.size hg5
  replace hp := hp.fr0 f4
  replace ho := ho.fr0 f4
  replace hG := hG.fr0 f4
  have hF9 := hF0.then0 f4
  refine s_y (y_assign rfl) rfl rfl ?_
  refine s_nil ?_
  refine n_then ?_
  refine c_seq ?_
  refine c_seq ?_
  refine c_region ?_
  refine s_y (y_move rfl) rfl rfl ?_
  refine s_y (y_pn Tryd.underlying23 rfl rfl) rfl rfl ?_
  refine s_y (y_move rfl) rfl rfl ?_
  refine s_gy (y_move rfl) ⟨_, _, _, _, rfl, rfl, rfl, rfl⟩ rfl ?_
  refine s_gy (y_nilCheck rfl) ⟨_, _, _, _, rfl, rfl, rfl, rfl⟩ rfl ?_
  refine s_gy (y_field rfl T.fld39_1 rfl) ⟨_, _, _, _, rfl, rfl, rfl, rfl⟩ rfl ?_
  refine s_gy (y_ldB (v := .bool true) T.ty4 rfl hp rfl) ⟨_, _, _, _, rfl, rfl, rfl, rfl⟩ rfl ?_
  refine s_gy (y_not rfl rfl) ⟨_, _, _, _, rfl, rfl, rfl, rfl⟩ rfl ?_
  refine s_y (y_pick rfl rfl rfl rfl) rfl rfl ?_
  refine s_nil ?_
  refine n_then ?_
  refine c_false rfl ?_
  refine c_skip ?_
  refine n_then ?_
  refine c_seq ?_
  refine c_region ?_
  refine s_y (y_move rfl) rfl rfl ?_
  refine s_y (y_nilCheck rfl) rfl rfl ?_
  refine s_y (y_field rfl T.fld39_0 rfl) rfl rfl ?_
  refine s_y (y_ldB (v := .slice A es.length c) T.ty25 rfl hp rfl) rfl rfl ?_
  refine s_d (d_callR T.ent27 (vs := [.slice A es.length c]) rfl (last_ok A g 0 c es _ (by omega) ho.row) (by rintro e w' ⟨rfl, -⟩; exact ⟨_, rfl⟩)) rfl rfl ?_
  rintro v12 w10 ⟨hv13, f11⟩
  obtain rfl := ret_inj hv13
  replace hp := hp.fr0 f11
  replace ho := ho.fr0 f11
  replace hG := hG.fr0 f11
  replace b3 := b3.fr0 f11
  have hF14 := hF9.then0 f11
  refine s_y (y_move rfl) rfl rfl ?_
  refine s_y (y_move rfl) rfl rfl ?_
  refine s_d (d_callR T.ent26 (vs := [.agg (([.int .i64 ((lastE es).at_), .string ⟨((lastE es).text).toArray⟩] : List Value) ++ (((lastE es).sum).cells)).toArray, .int .i64 a, .string ⟨t.toArray⟩]) rfl (next26_ok (lastE es) a t _ (by omega) (by omega) (by omega) hG) (by rintro e w' ⟨rfl, -⟩; exact ⟨_, rfl⟩)) rfl rfl ?_
  rintro v17 w15 ⟨hv18, f16⟩
  obtain rfl := ret_inj hv18
  replace hp := hp.fr0 f16
  replace ho := ho.fr0 f16
  replace hG := hG.fr0 f16
  replace b3 := b3.fr0 f16
  have hF19 := hF14.then0 f16
  refine s_y (y_move rfl) rfl rfl ?_
  refine s_y (y_extract rfl rfl) rfl rfl ?_
  refine s_y (y_extract rfl rfl) rfl rfl ?_
  refine s_d (d_alloc (cs := ([.int .i64 0, .string ⟨([] : List UInt8).toArray⟩] : List Value) ++ Dig.zero.cells) T.zero28 rfl) rfl rfl ?_
  rintro _ w21 ⟨g20, rfl, hg24, b22, f23⟩
  have ne25 : p ≠ g20 := Nat.ne_of_lt (Nat.lt_of_lt_of_le hp.lt hg24)
  have ne26 := ho.ne_new hg24
  have ne27 : g1 ≠ g20 := Nat.ne_of_lt (Nat.lt_of_lt_of_le b3.lt hg24)
  have nw28 := Nat.le_trans hF19.size hg24
  replace hp := hp.fr0 f23
  replace ho := ho.fr0 f23
  replace hG := hG.fr0 f23
  replace b3 := b3.fr0 f23
  have hF29 := hF19.then0 f23
  refine s_d (d_store (cs := ([.int .i64 (((nextE (lastE es) a t).1).at_), .string ⟨(((nextE (lastE es) a t).1).text).toArray⟩] : List Value) ++ ((((nextE (lastE es) a t).1).sum).cells)) (l' := ([.int .i64 (((nextE (lastE es) a t).1).at_), .string ⟨(((nextE (lastE es) a t).1).text).toArray⟩] : List Value) ++ ((((nextE (lastE es) a t).1).sum).cells)) T.ty28 rfl rfl b22 rfl (by simp [Dig.len]) (ones (by simp [all_bv, all_u32, all_ent, all_dig, all_ents])) (by simp [Dig.len, Dig.len]) (setL_all (by simp [Dig.len, Dig.len]))) rfl rfl ?_
  rintro _ w30 ⟨rfl, b31, f32⟩
  replace hp := hp.fr1 f32 ne25
  replace ho := ho.fr1 f32 ne26
  replace hG := hG.fr f32 (by simp; omega)
  replace b3 := b3.fr1 f32 ne27
  clear b22
  have hF33 := hF29.thenNew f32 nw28
  refine s_y (y_assign rfl) rfl rfl ?_
  refine s_nil ?_
  refine n_then ?_
  refine c_seq ?_
  refine c_block ?_
  refine c_seq ?_
  refine c_region ?_
  refine s_y (y_move rfl) rfl rfl ?_
  refine s_y (y_neq rfl rfl rfl) rfl rfl ?_
  refine s_y (y_assign rfl) rfl rfl ?_
  refine s_nil ?_
  refine n_then ?_
  refine c_cond rfl ?_ ?_
  · intro h34
    replace h34 : (((nextE (lastE es) a t).2) : Int) ≠ 0 := of_decide_eq_true h34
    refine c_seq ?_
    refine c_region ?_
    refine s_y (y_ldBA (xs := ([.int .i64 (((nextE (lastE es) a t).1).at_), .string ⟨(((nextE (lastE es) a t).1).text).toArray⟩] : List Value) ++ ((((nextE (lastE es) a t).1).sum).cells)) T.ty28 rfl b31 (by simp [Dig.len]) (take_all _ (by simp [Dig.len]))) rfl rfl ?_
    refine s_y (y_move rfl) rfl rfl ?_
    refine s_d (d_store (cs := ([.int .i64 (((nextE (lastE es) a t).1).at_), .string ⟨(((nextE (lastE es) a t).1).text).toArray⟩] : List Value) ++ ((((nextE (lastE es) a t).1).sum).cells)) (l' := ([.int .i64 (((nextE (lastE es) a t).1).at_), .string ⟨(((nextE (lastE es) a t).1).text).toArray⟩] : List Value) ++ ((((nextE (lastE es) a t).1).sum).cells)) T.ty28 rfl rfl b3 rfl (by simp [Dig.len]) (ones (by simp [all_bv, all_u32, all_ent, all_dig, all_ents])) (by simp [Dig.len, Dig.len]) (setL_all (by simp [Dig.len, Dig.len]))) rfl rfl ?_
    rintro _ w35 ⟨rfl, b36, f37⟩
    replace hp := hp.fr1 f37 ne6
    replace ho := ho.fr1 f37 ne7
    replace hG := hG.fr f37 (by simp; omega)
    replace b31 := b31.fr1 f37 ne27.symm
    clear b3
    have hF38 := hF33.thenNew f37 nw8
    refine s_y (y_assign rfl) rfl rfl ?_
    refine s_nil ?_
    refine n_then ?_
    refine c_ret ?_
    refine r_inb ?_
    refine r_then ?_
    refine fin2 (by simp) rfl (rv_A (xs := ([.int .i64 (((nextE (lastE es) a t).1).at_), .string ⟨(((nextE (lastE es) a t).1).text).toArray⟩] : List Value) ++ ((((nextE (lastE es) a t).1).sum).cells)) T.ty28 rfl b36 (by simp [Dig.len]) (take_all _ (by simp [Dig.len]))) rfl ?_
    rw [add_e es a t (by assumption)]
    exact ⟨A, g, c, rfl, hF38, hp, ho, .inr (.inl (by simp))⟩
  · intro h39
    replace h39 : (((nextE (lastE es) a t).2) : Int) = 0 := Decidable.not_not.1 (of_decide_eq_false h39)
    refine c_seq ?_
    refine c_region ?_
    refine s_y (y_move rfl) rfl rfl ?_
    refine s_y (y_nilCheck rfl) rfl rfl ?_
    refine s_y (y_field rfl T.fld39_0 rfl) rfl rfl ?_
    refine s_y (y_ldB (v := .slice A es.length c) T.ty25 rfl hp rfl) rfl rfl ?_
    refine s_y (y_len Tryd.underlying25 rfl) rfl rfl ?_
    refine s_y (y_geq rfl rfl rfl) rfl rfl ?_
    refine s_y (y_assign rfl) rfl rfl ?_
    refine s_nil ?_
    refine n_then ?_
    refine c_cond rfl ?_ ?_
    · intro h40
      replace h40 : (4096 : Int) ≤ ↑es.length := of_decide_eq_true h40
      refine c_seq ?_
      refine c_region ?_
      refine s_y (y_build (vs := []) rfl (T.bz28 _)) rfl rfl ?_
      refine s_d (d_store (cs := ([.int .i64 0, .string ⟨([] : List UInt8).toArray⟩] : List Value) ++ Dig.zero.cells) (l' := ([.int .i64 0, .string ⟨([] : List UInt8).toArray⟩] : List Value) ++ Dig.zero.cells) T.ty28 rfl rfl b3 rfl (by simp [Dig.len]) (ones (by simp [all_bv, all_u32, all_ent, all_dig, all_ents])) (by simp [Dig.len, Dig.len]) (setL_all (by simp [Dig.len, Dig.len]))) rfl rfl ?_
      rintro _ w41 ⟨rfl, b42, f43⟩
      replace hp := hp.fr1 f43 ne6
      replace ho := ho.fr1 f43 ne7
      replace hG := hG.fr f43 (by simp; omega)
      replace b31 := b31.fr1 f43 ne27.symm
      clear b3
      have hF44 := hF33.thenNew f43 nw8
      refine s_y (y_assign rfl) rfl rfl ?_
      refine s_nil ?_
      refine n_then ?_
      refine c_ret ?_
      refine r_inb ?_
      refine r_then ?_
      refine fin2 (by simp) rfl (rv_A (xs := ([.int .i64 0, .string ⟨([] : List UInt8).toArray⟩] : List Value) ++ Dig.zero.cells) T.ty28 rfl b42 (by simp [Dig.len]) (take_all _ (by simp [Dig.len]))) rfl ?_
      rw [add_f es a t (by assumption) (by omega)]
      exact ⟨A, g, c, rfl, hF44, hp, ho, .inr (.inl (by simp))⟩
    · intro h45
      replace h45 : ¬ ((4096 : Int) ≤ ↑es.length) := of_decide_eq_false h45
      refine c_skip ?_
      refine n_inb ?_
      refine n_then ?_
      refine c_seq ?_
      refine dr_begin (fun W => Blk W p 39 [.slice A es.length c, .bool true] ∧ Blk W g20 28 (([.int .i64 (((nextE (lastE es) a t).1).at_), .string ⟨(((nextE (lastE es) a t).1).text).toArray⟩] : List Value) ++ ((((nextE (lastE es) a t).1).sum).cells))) 10 (by kernel_rfl) ?_
      intro w46 f47
      replace hp := hp.fr0 f47
      replace ho := ho.fr0 f47
      replace hG := hG.fr0 f47
      replace b3 := b3.fr0 f47
      replace b31 := b31.fr0 f47
      have hF48 := hF33.then0 f47
      refine dr_y 0 rfl (fun _ => y_move rfl) rfl (by kernel_rfl) (qp_then qp_body) (fun _ => ⟨hp, b31⟩) ?_
      refine dr_y 1 rfl (fun _ => y_move rfl) rfl (by kernel_rfl) (qp_then qp_body) (fun _ => ⟨hp, b31⟩) ?_
      refine dr_y 2 rfl (fun _ => y_nilCheck rfl) rfl (by kernel_rfl) (qp_then qp_body) (fun _ => ⟨hp, b31⟩) ?_
      refine dr_y 3 rfl (fun _ => y_field rfl T.fld39_0 rfl) rfl (by kernel_rfl) (qp_then qp_body) (fun _ => ⟨hp, b31⟩) ?_
      refine dr_l 4 rfl (fun _ hS => by obtain ⟨q0, q1⟩ := hS; exact y_ldB (v := .slice A es.length c) T.ty25 rfl q0 rfl) rfl (by kernel_rfl) (qp_then qp_body) ⟨hp, b31⟩ ?_
      refine dr_l 5 rfl (fun _ hS => by obtain ⟨q0, q1⟩ := hS; exact y_ldBA (xs := ([.int .i64 (((nextE (lastE es) a t).1).at_), .string ⟨(((nextE (lastE es) a t).1).text).toArray⟩] : List Value) ++ ((((nextE (lastE es) a t).1).sum).cells)) T.ty28 rfl q1 (by simp [Dig.len]) (take_all _ (by simp [Dig.len]))) rfl (by kernel_rfl) (qp_then qp_body) ⟨hp, b31⟩ ?_
      refine dr_1 (i := 6) (by kernel_rfl) ?_
      have hlit49 := (T.lit10 (((nextE (lastE es) a t).1).at_) ⟨(((nextE (lastE es) a t).1).text).toArray⟩ ((((nextE (lastE es) a t).1).sum).cells) (by simp [Dig.len]))
      refine rd_d rfl (d_bs2 hlit49 ⟨rfl, rfl, trivial⟩) rfl rfl ?_
      rintro _ w51 ⟨g50, rfl, hg54, b52, f53⟩
      have ne55 : p ≠ g50 := Nat.ne_of_lt (Nat.lt_of_lt_of_le hp.lt hg54)
      have ne56 := ho.ne_new hg54
      have ne57 : g1 ≠ g50 := Nat.ne_of_lt (Nat.lt_of_lt_of_le b3.lt hg54)
      have ne58 : g20 ≠ g50 := Nat.ne_of_lt (Nat.lt_of_lt_of_le b31.lt hg54)
      have nw59 := Nat.le_trans hF48.size hg54
      replace hp := hp.fr0 f53
      replace ho := ho.fr0 f53
      replace hG := hG.fr0 f53
      replace b3 := b3.fr0 f53
      replace b31 := b31.fr0 f53
      have hF60 := hF48.then0 f53
      have o61 := Own.of_blk (n := 1) (k := 34) b52 (by simp [Dig.len]) (by decide)
      refine ⟨fun _ => ⟨hp, b31⟩, ?_⟩
      refine dr_1 (i := 7) (by kernel_rfl) ?_
      refine rd_d rfl (d_append Tryd.underlying25 T.ty28 T.app28 rfl ho rfl (src_row Tryd.underlying25 T.ty28 o61.row ()) (ones (by first | exact all_bv _ | exact all_wv _ | exact rfl | simp [all_bv, all_u32, all_ent, all_dig, all_ents])) (by omega)) rfl rfl ?_
      rintro _ w65 ⟨A62, g63, c64, rfl, o66, f67, hat68⟩
      replace o66 : Own w65 A62 g63 (es.length + 1) c64 28 34 (ents (es ++ [(nextE (lastE es) a t).1])) := (by simpa [ents_app, ents, Ent.cells] using o66)
      obtain ⟨hno66⟩ : Nonempty (es.length + 1 = (es ++ [(nextE (lastE es) a t).1]).length) := ⟨by simp⟩
      rw [hno66] at o66 ⊢
      have ne70 := app_ap hat68 (ho.ne_blk hp (by decide)) hp.lt
      replace hp := hp.fr f67 (no_own (ho.ne_blk hp (by decide)))
      clear hG
      have ne71 := app_ap hat68 ne7 b3.lt
      replace b3 := b3.fr f67 (no_own ne7)
      have ne72 := app_ap hat68 ne26 b31.lt
      replace b31 := b31.fr f67 (no_own ne26)
      have wh73 : A62 = none ∨ g63 ∈ ([p, g] : List Nat) ∨ w.heap.size ≤ g63 := app_wh hat68 (.inr (.inl (by simp))) hF60.size
      have hF74 := hF60.thenOwnIn f67 (.inr (.inl (by simp)))
      refine ⟨fun _ => ⟨hp, b31⟩, ?_⟩
      refine dr_y 8 rfl (fun _ => y_nilCheck rfl) rfl (by kernel_rfl) (qp_then qp_body) (fun _ => ⟨hp, b31⟩) ?_
      refine dr_y 9 rfl (fun _ => y_field rfl T.fld39_0 rfl) rfl (by kernel_rfl) (qp_then qp_body) (fun _ => ⟨hp, b31⟩) ?_
      refine dr_1 (i := 10) (by kernel_rfl) ?_
      refine rd_d rfl (d_store (cs := [.slice A62 ((es ++ [(nextE (lastE es) a t).1]).length) c64]) (l' := [.slice A62 ((es ++ [(nextE (lastE es) a t).1]).length) c64, .bool true]) T.ty25 rfl rfl hp rfl rfl (ones rfl) (Nat.le_of_ble_eq_true rfl) rfl) rfl rfl ?_
      rintro _ w75 ⟨rfl, b76, f77⟩
      replace b3 := b3.fr1 f77 ne6.symm
      replace b31 := b31.fr1 f77 ne25.symm
      replace o66 := o66.fr1 f77 ne70
      clear hp
      have hF78 := hF74.thenIn f77 (by simp)
      refine ⟨fun h => (Bool.false_ne_true (h.symm.trans (by kernel_rfl))).elim, ?_⟩
      refine dr_done (by kernel_rfl) ?_
      refine n_then ?_
      refine c_seq ?_
      refine c_region ?_
      refine s_y (y_ldBA (xs := ([.int .i64 (((nextE (lastE es) a t).1).at_), .string ⟨(((nextE (lastE es) a t).1).text).toArray⟩] : List Value) ++ ((((nextE (lastE es) a t).1).sum).cells)) T.ty28 rfl b31 (by simp [Dig.len]) (take_all _ (by simp [Dig.len]))) rfl rfl ?_
      refine s_y (y_move rfl) rfl rfl ?_
      refine s_d (d_store (cs := ([.int .i64 (((nextE (lastE es) a t).1).at_), .string ⟨(((nextE (lastE es) a t).1).text).toArray⟩] : List Value) ++ ((((nextE (lastE es) a t).1).sum).cells)) (l' := ([.int .i64 (((nextE (lastE es) a t).1).at_), .string ⟨(((nextE (lastE es) a t).1).text).toArray⟩] : List Value) ++ ((((nextE (lastE es) a t).1).sum).cells)) T.ty28 rfl rfl b3 rfl (by simp [Dig.len]) (ones (by simp [all_bv, all_u32, all_ent, all_dig, all_ents])) (by simp [Dig.len, Dig.len]) (setL_all (by simp [Dig.len, Dig.len]))) rfl rfl ?_
      rintro _ w79 ⟨rfl, b80, f81⟩
      replace b31 := b31.fr1 f81 ne27.symm
      replace o66 := o66.fr1 f81 ne71
      replace b76 := b76.fr1 f81 ne6
      clear b3
      have hF82 := hF78.thenNew f81 nw8
      refine s_y (y_assign rfl) rfl rfl ?_
      refine s_nil ?_
      refine n_then ?_
      refine c_ret ?_
      refine fin2 (by simp) rfl (rv_A (xs := ([.int .i64 (((nextE (lastE es) a t).1).at_), .string ⟨(((nextE (lastE es) a t).1).text).toArray⟩] : List Value) ++ ((((nextE (lastE es) a t).1).sum).cells)) T.ty28 rfl b80 (by simp [Dig.len]) (take_all _ (by simp [Dig.len]))) rfl ?_
      rw [add_k es a t (by assumption) (by omega)]
      exact ⟨_, _, _, by rw [‹(nextE (lastE es) a t).2 = 0›]; rfl, hF82, b76, o66, wh73⟩

set_option maxRecDepth 100000 in
theorem add9N_ok (a : Int) (t : List UInt8) (w : World) :
    Calls Tryd.prog 9 #[.pointer none, .int .i64 a, .string ⟨t.toArray⟩] w fun e w' => e = .returned (.tuple #[.agg Ent.zero.cells.toArray, .int .i64 1]) ∧ Fr [] w w' := by
  refine c_start (args := [.pointer none, .int .i64 a, .string ⟨t.toArray⟩]) Tryd.func9 rfl rfl rfl ?_
  try simp only [enum, Nat.zero_add, Nat.reduceAdd]
  have hF0 := Fr.refl [] w
  refine c_seq ?_
  refine c_region ?_
  refine s_d (d_alloc (cs := ([.int .i64 0, .string ⟨([] : List UInt8).toArray⟩] : List Value) ++ Dig.zero.cells) T.zero28 rfl) rfl rfl ?_
  rintro _ w2 ⟨g1, rfl, hg5, b3, f4⟩
  have nw6 := Nat.le_trans hF0.size hg5
  have hF7 := hF0.then0 f4
  refine s_y (y_assign rfl) rfl rfl ?_
  refine s_nil ?_
  refine n_then ?_
  refine c_seq ?_
  refine c_seq ?_
  refine c_region ?_
  refine s_y (y_move rfl) rfl rfl ?_
  refine s_y (y_nn Tryd.underlying23 rfl rfl) rfl rfl ?_
  refine s_y (y_move rfl) rfl rfl ?_
  refine s_skip ⟨_, _, _, _, rfl, rfl, rfl, rfl⟩ rfl ?_
  refine s_skip ⟨_, _, _, _, rfl, rfl, rfl, rfl⟩ rfl ?_
  refine s_skip ⟨_, _, _, _, rfl, rfl, rfl, rfl⟩ rfl ?_
  refine s_skip ⟨_, _, _, _, rfl, rfl, rfl, rfl⟩ rfl ?_
  refine s_skip ⟨_, _, _, _, rfl, rfl, rfl, rfl⟩ rfl ?_
  refine s_y (y_pick rfl rfl rfl rfl) rfl rfl ?_
  refine s_nil ?_
  refine n_then ?_
  refine c_true rfl ?_
  refine c_seq ?_
  refine c_region ?_
  refine s_y (y_build (vs := []) rfl (T.bz28 _)) rfl rfl ?_
  refine s_d (d_store (cs := ([.int .i64 0, .string ⟨([] : List UInt8).toArray⟩] : List Value) ++ Dig.zero.cells) (l' := ([.int .i64 0, .string ⟨([] : List UInt8).toArray⟩] : List Value) ++ Dig.zero.cells) T.ty28 rfl rfl b3 rfl (by simp [Dig.len]) (ones (by simp [all_bv, all_u32, all_ent, all_dig, all_ents])) (by simp [Dig.len, Dig.len]) (setL_all (by simp [Dig.len, Dig.len]))) rfl rfl ?_
  rintro _ w8 ⟨rfl, b9, f10⟩
  clear b3
  have hF11 := hF7.thenNew f10 nw6
  refine s_y (y_assign rfl) rfl rfl ?_
  refine s_nil ?_
  refine n_then ?_
  refine c_ret ?_
  refine r_then ?_
  refine fin2 (by simp) rfl (rv_A (xs := ([.int .i64 0, .string ⟨([] : List UInt8).toArray⟩] : List Value) ++ Dig.zero.cells) T.ty28 rfl b9 (by simp [Dig.len]) (take_all _ (by simp [Dig.len]))) rfl ?_
  exact ⟨rfl, hF11⟩

set_option maxRecDepth 100000 in
theorem add9C_ok (p n c : Nat) (A : Option Addr) (a : Int) (t : List UInt8) (w : World) (hp : Blk w p 39 [.slice A n c, .bool false]) :
    Calls Tryd.prog 9 #[.pointer (some ⟨p, 0, none⟩), .int .i64 a, .string ⟨t.toArray⟩] w fun e w' => e = .returned (.tuple #[.agg Ent.zero.cells.toArray, .int .i64 1]) ∧ Fr [] w w' := by
  refine c_start (args := [.pointer (some ⟨p, 0, none⟩), .int .i64 a, .string ⟨t.toArray⟩]) Tryd.func9 rfl rfl rfl ?_
  try simp only [enum, Nat.zero_add, Nat.reduceAdd]
  have hF0 := Fr.refl [] w
  have lt_hp := hp.lt
  refine c_seq ?_
  refine c_region ?_
  refine s_d (d_alloc (cs := ([.int .i64 0, .string ⟨([] : List UInt8).toArray⟩] : List Value) ++ Dig.zero.cells) T.zero28 rfl) rfl rfl ?_
  rintro _ w2 ⟨g1, rfl, hg5, b3, f4⟩
  have ne6 : p ≠ g1 := Nat.ne_of_lt (Nat.lt_of_lt_of_le hp.lt hg5)
  have nw7 := Nat.le_trans hF0.size hg5
  replace hp := hp.fr0 f4
  have hF8 := hF0.then0 f4
  refine s_y (y_assign rfl) rfl rfl ?_
  refine s_nil ?_
  refine n_then ?_
  refine c_seq ?_
  refine c_seq ?_
  refine c_region ?_
  refine s_y (y_move rfl) rfl rfl ?_
  refine s_y (y_pn Tryd.underlying23 rfl rfl) rfl rfl ?_
  refine s_y (y_move rfl) rfl rfl ?_
  refine s_gy (y_move rfl) ⟨_, _, _, _, rfl, rfl, rfl, rfl⟩ rfl ?_
  refine s_gy (y_nilCheck rfl) ⟨_, _, _, _, rfl, rfl, rfl, rfl⟩ rfl ?_
  refine s_gy (y_field rfl T.fld39_1 rfl) ⟨_, _, _, _, rfl, rfl, rfl, rfl⟩ rfl ?_
  refine s_gy (y_ldB (v := .bool false) T.ty4 rfl hp rfl) ⟨_, _, _, _, rfl, rfl, rfl, rfl⟩ rfl ?_
  refine s_gy (y_not rfl rfl) ⟨_, _, _, _, rfl, rfl, rfl, rfl⟩ rfl ?_
  refine s_y (y_pick rfl rfl rfl rfl) rfl rfl ?_
  refine s_nil ?_
  refine n_then ?_
  refine c_true rfl ?_
  refine c_seq ?_
  refine c_region ?_
  refine s_y (y_build (vs := []) rfl (T.bz28 _)) rfl rfl ?_
  refine s_d (d_store (cs := ([.int .i64 0, .string ⟨([] : List UInt8).toArray⟩] : List Value) ++ Dig.zero.cells) (l' := ([.int .i64 0, .string ⟨([] : List UInt8).toArray⟩] : List Value) ++ Dig.zero.cells) T.ty28 rfl rfl b3 rfl (by simp [Dig.len]) (ones (by simp [all_bv, all_u32, all_ent, all_dig, all_ents])) (by simp [Dig.len, Dig.len]) (setL_all (by simp [Dig.len, Dig.len]))) rfl rfl ?_
  rintro _ w9 ⟨rfl, b10, f11⟩
  replace hp := hp.fr1 f11 ne6
  clear b3
  have hF12 := hF8.thenNew f11 nw7
  refine s_y (y_assign rfl) rfl rfl ?_
  refine s_nil ?_
  refine n_then ?_
  refine c_ret ?_
  refine r_then ?_
  refine fin2 (by simp) rfl (rv_A (xs := ([.int .i64 0, .string ⟨([] : List UInt8).toArray⟩] : List Value) ++ Dig.zero.cells) T.ty28 rfl b10 (by simp [Dig.len]) (take_all _ (by simp [Dig.len]))) rfl ?_
  exact ⟨rfl, hF12⟩

end Go.Proofs.YtojbephcahnbbaaDoor
