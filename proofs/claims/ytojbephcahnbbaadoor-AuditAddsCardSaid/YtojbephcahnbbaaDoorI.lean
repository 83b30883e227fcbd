/- The audit log: a line, the next record. No condition. -/
import Derived.Test.YtojbephcahnbbaaDoorLog
import Derived.Test.YtojbephcahnbbaaDoorH
import Derived.Test.YtojbephcahnbbaaDoorIT
import Derived.Test.YtojbephcahnbbaaDoorProg
set_option linter.unusedVariables false
set_option linter.unusedSimpArgs false
namespace Go.Proofs.YtojbephcahnbbaaDoor
open Go Go.Proofs.GP Go.Proofs.Tryd
set_option maxRecDepth 100000 in
theorem line14_ok (a : Int) (t : List UInt8) (w : World) (h0 : -9223372036854775808 ≤ a) (h1 : a ≤ 9223372036854775807) (ht : t.length ≤ 549755813000) (hG : Gl w) :
    Calls Tryd.prog 14 #[.int .i64 a, .string ⟨t.toArray⟩] w fun e w' => e = .returned (.string ⟨(line a t).toArray⟩) ∧ Fr [] w w' := by
  have hz4 : 4 ≤ w.heap.size := hG.s
  have hil := itoa_len a h0 h1
  refine c_start (args := [.int .i64 a, .string ⟨t.toArray⟩]) Tryd.func14 rfl rfl rfl ?_
  try simp only [enum, Nat.zero_add, Nat.reduceAdd]
  have hF0 := Fr.refl [] w
  refine c_seq ?_
  refine c_region ?_
  refine s_y (y_assign rfl) rfl rfl ?_
  refine s_nil ?_
  refine n_then ?_
  refine c_seq ?_
  refine c_region ?_
  refine s_y (y_move rfl) rfl rfl ?_
  refine s_d (d_callR T.ent30 (vs := [.int .i64 a]) rfl (itoa_ok _ _ h0 h1 hG) (by rintro e w' ⟨rfl, -⟩; exact ⟨_, rfl⟩)) rfl rfl ?_
  rintro v3 w1 ⟨hv4, f2⟩
  obtain rfl := ret_inj hv4
  replace hG := hG.fr0 f2
  have hF5 := hF0.then0 f2
  refine s_y (y_sadd rfl rfl (by first | omega | (rw [List.length_append, List.length_singleton]; omega) | (simp; omega))) rfl rfl ?_
  refine s_y (y_move rfl) rfl rfl ?_
  refine s_y (y_sadd rfl rfl (by first | omega | (rw [List.length_append, List.length_singleton]; omega) | (simp; omega))) rfl rfl ?_
  refine s_y (y_assign rfl) rfl rfl ?_
  refine s_nil ?_
  refine n_then ?_
  refine c_ret ?_
  refine fin1 (by simp) rfl rfl ?_
  exact ⟨rfl, hF5⟩

set_option maxRecDepth 100000 in
theorem next26_ok (e : Ent) (a : Int) (t : List UInt8) (w : World) (h0 : -9223372036854775808 ≤ a) (h1 : a ≤ 9223372036854775807) (ht : t.length ≤ 9223372036854775807) (hG : Gl w) :
    Calls Tryd.prog 26 #[.agg (([.int .i64 e.at_, .string ⟨e.text.toArray⟩] : List Value) ++ e.sum.cells).toArray, .int .i64 a, .string ⟨t.toArray⟩] w fun x w' => x = .returned (.tuple #[.agg (nextE e a t).1.cells.toArray, .int .i64 (nextE e a t).2]) ∧ Fr [] w w' := by
  have hz4 : 4 ≤ w.heap.size := hG.s
  refine c_start (args := [.agg (([.int .i64 e.at_, .string ⟨e.text.toArray⟩] : List Value) ++ e.sum.cells).toArray, .int .i64 a, .string ⟨t.toArray⟩]) Tryd.func26 rfl rfl rfl ?_
  try simp only [enum, Nat.zero_add, Nat.reduceAdd]
  have hF0 := Fr.refl [] w
  refine c_seq ?_
  refine c_region ?_
  refine s_d (d_box (cs := ([.int .i64 e.at_, .string ⟨e.text.toArray⟩] : List Value) ++ e.sum.cells) rfl rfl) rfl rfl ?_
  rintro _ w2 ⟨g1, rfl, hg5, b3, f4⟩
  have nw6 := Nat.le_trans hF0.size hg5
  replace hG := hG.fr0 f4
  have hF7 := hF0.then0 f4
  refine s_d (d_alloc (cs := ([.int .i64 0, .string ⟨([] : List UInt8).toArray⟩] : List Value) ++ Dig.zero.cells) T.zero28 rfl) rfl rfl ?_
  rintro _ w9 ⟨g8, rfl, hg12, b10, f11⟩
  have ne13 : g1 ≠ g8 := Nat.ne_of_lt (Nat.lt_of_lt_of_le b3.lt hg12)
  have nw14 := Nat.le_trans hF7.size hg12
  replace hG := hG.fr0 f11
  replace b3 := b3.fr0 f11
  have hF15 := hF7.then0 f11
  refine s_y (y_assign rfl) rfl rfl ?_
  refine s_nil ?_
  refine n_then ?_
  refine c_seq ?_
  refine c_block ?_
  refine c_seq ?_
  refine c_region ?_
  refine s_y (y_move rfl) rfl rfl ?_
  refine s_y (y_field rfl T.fld28_0 rfl) rfl rfl ?_
  refine s_y (y_ldB (v := .int .i64 e.at_) T.ty3 rfl b3 rfl) rfl rfl ?_
  refine s_y (y_lss rfl rfl rfl) rfl rfl ?_
  refine s_y (y_move rfl) rfl rfl ?_
  refine wl_bool (decide ((a : Int) < e.at_)) ?_ ?_
  · intro hb16
    rw [hb16]
    have hp17 : (a : Int) < e.at_ := of_decide_eq_true hb16
    clear hb16
    refine s_skip ⟨_, _, _, _, rfl, rfl, rfl, rfl⟩ rfl ?_
    refine s_skip ⟨_, _, _, _, rfl, rfl, rfl, rfl⟩ rfl ?_
    refine s_y (y_pick rfl rfl rfl rfl) rfl rfl ?_
    refine s_y (y_assign rfl) rfl rfl ?_
    refine s_nil ?_
    refine n_then ?_
    refine c_true rfl ?_
    refine c_seq ?_
    refine c_region ?_
    refine s_y (y_build (vs := []) rfl (T.bz28 _)) rfl rfl ?_
    refine s_d (d_store (cs := ([.int .i64 0, .string ⟨([] : List UInt8).toArray⟩] : List Value) ++ Dig.zero.cells) (l' := ([.int .i64 0, .string ⟨([] : List UInt8).toArray⟩] : List Value) ++ Dig.zero.cells) T.ty28 rfl rfl b10 rfl (by simp [Dig.len]) (ones (by simp [all_bv, all_u32, all_ent, all_dig, all_ents])) (by simp [Dig.len, Dig.len]) (setL_all (by simp [Dig.len, Dig.len]))) rfl rfl ?_
    rintro _ w18 ⟨rfl, b19, f20⟩
    replace hG := hG.fr f20 (by simp; omega)
    replace b3 := b3.fr1 f20 ne13
    clear b10
    have hF21 := hF15.thenNew f20 nw14
    refine s_y (y_assign rfl) rfl rfl ?_
    refine s_nil ?_
    refine n_then ?_
    refine c_ret ?_
    refine r_inb ?_
    refine r_then ?_
    refine fin2 (by simp) rfl (rv_A (xs := ([.int .i64 0, .string ⟨([] : List UInt8).toArray⟩] : List Value) ++ Dig.zero.cells) T.ty28 rfl b19 (by simp [Dig.len]) (take_all _ (by simp [Dig.len]))) rfl ?_
    exact ⟨by rw [next_2 e a t (by omega)]; rfl, hF21⟩
  · intro hb16
    rw [hb16]
    have hp22 : ¬ ((a : Int) < e.at_) := of_decide_eq_false hb16
    clear hb16
    refine s_gy (y_move rfl) ⟨_, _, _, _, rfl, rfl, rfl, rfl⟩ rfl ?_
    refine s_gy (y_gtr rfl rfl rfl) ⟨_, _, _, _, rfl, rfl, rfl, rfl⟩ rfl ?_
    refine s_y (y_pick rfl rfl rfl rfl) rfl rfl ?_
    refine s_y (y_assign rfl) rfl rfl ?_
    refine s_nil ?_
    refine n_then ?_
    refine c_cond rfl ?_ ?_
    · intro h23
      replace h23 : (1099511627776 : Int) < a := of_decide_eq_true h23
      refine c_seq ?_
      refine c_region ?_
      refine s_y (y_build (vs := []) rfl (T.bz28 _)) rfl rfl ?_
      refine s_d (d_store (cs := ([.int .i64 0, .string ⟨([] : List UInt8).toArray⟩] : List Value) ++ Dig.zero.cells) (l' := ([.int .i64 0, .string ⟨([] : List UInt8).toArray⟩] : List Value) ++ Dig.zero.cells) T.ty28 rfl rfl b10 rfl (by simp [Dig.len]) (ones (by simp [all_bv, all_u32, all_ent, all_dig, all_ents])) (by simp [Dig.len, Dig.len]) (setL_all (by simp [Dig.len, Dig.len]))) rfl rfl ?_
      rintro _ w24 ⟨rfl, b25, f26⟩
      replace hG := hG.fr f26 (by simp; omega)
      replace b3 := b3.fr1 f26 ne13
      clear b10
      have hF27 := hF15.thenNew f26 nw14
      refine s_y (y_assign rfl) rfl rfl ?_
      refine s_nil ?_
      refine n_then ?_
      refine c_ret ?_
      refine r_inb ?_
      refine r_then ?_
      refine fin2 (by simp) rfl (rv_A (xs := ([.int .i64 0, .string ⟨([] : List UInt8).toArray⟩] : List Value) ++ Dig.zero.cells) T.ty28 rfl b25 (by simp [Dig.len]) (take_all _ (by simp [Dig.len]))) rfl ?_
      exact ⟨by rw [next_2 e a t (by omega)]; rfl, hF27⟩
    · intro h28
      replace h28 : ¬ ((1099511627776 : Int) < a) := of_decide_eq_false h28
      refine c_seq ?_
      refine c_region ?_
      refine s_y (y_move rfl) rfl rfl ?_
      refine s_y (y_lenS Tryd.underlying9 rfl) rfl rfl ?_
      refine s_y (y_gtr rfl rfl rfl) rfl rfl ?_
      refine s_y (y_assign rfl) rfl rfl ?_
      refine s_nil ?_
      refine n_then ?_
      refine c_cond rfl ?_ ?_
      · intro h29
        replace h29 : (65536 : Int) < ↑t.length := of_decide_eq_true h29
        refine c_seq ?_
        refine c_region ?_
        refine s_y (y_build (vs := []) rfl (T.bz28 _)) rfl rfl ?_
        refine s_d (d_store (cs := ([.int .i64 0, .string ⟨([] : List UInt8).toArray⟩] : List Value) ++ Dig.zero.cells) (l' := ([.int .i64 0, .string ⟨([] : List UInt8).toArray⟩] : List Value) ++ Dig.zero.cells) T.ty28 rfl rfl b10 rfl (by simp [Dig.len]) (ones (by simp [all_bv, all_u32, all_ent, all_dig, all_ents])) (by simp [Dig.len, Dig.len]) (setL_all (by simp [Dig.len, Dig.len]))) rfl rfl ?_
        rintro _ w30 ⟨rfl, b31, f32⟩
        replace hG := hG.fr f32 (by simp; omega)
        replace b3 := b3.fr1 f32 ne13
        clear b10
        have hF33 := hF15.thenNew f32 nw14
        refine s_y (y_assign rfl) rfl rfl ?_
        refine s_nil ?_
        refine n_then ?_
        refine c_ret ?_
        refine r_inb ?_
        refine r_then ?_
        refine fin2 (by simp) rfl (rv_A (xs := ([.int .i64 0, .string ⟨([] : List UInt8).toArray⟩] : List Value) ++ Dig.zero.cells) T.ty28 rfl b31 (by simp [Dig.len]) (take_all _ (by simp [Dig.len]))) rfl ?_
        exact ⟨by rw [next_3 e a t (by omega) (by omega)]; rfl, hF33⟩
      · intro h34
        replace h34 : ¬ ((65536 : Int) < ↑t.length) := of_decide_eq_false h34
        refine c_skip ?_
        refine n_inb ?_
        refine n_then ?_
        refine c_seq ?_
        refine dr_begin (fun W => Blk W g1 28 (([.int .i64 e.at_, .string ⟨e.text.toArray⟩] : List Value) ++ e.sum.cells) ∧ Blk W g8 28 (([.int .i64 0, .string ⟨([] : List UInt8).toArray⟩] : List Value) ++ Dig.zero.cells)) 9 (by kernel_rfl) ?_
        intro w35 f36
        replace hG := hG.fr0 f36
        replace b3 := b3.fr0 f36
        replace b10 := b10.fr0 f36
        have hF37 := hF15.then0 f36
        refine dr_y 0 rfl (fun _ => y_move rfl) rfl (by kernel_rfl) (qp_then qp_body) (fun _ => ⟨b3, b10⟩) ?_
        refine dr_y 1 rfl (fun _ => y_move rfl) rfl (by kernel_rfl) (qp_then qp_body) (fun _ => ⟨b3, b10⟩) ?_
        refine dr_y 2 rfl (fun _ => y_field rfl T.fld28_2 rfl) rfl (by kernel_rfl) (qp_then qp_body) (fun _ => ⟨b3, b10⟩) ?_
        refine dr_l 3 rfl (fun _ hS => by obtain ⟨q0, q1⟩ := hS; exact y_ldBA (xs := e.sum.cells) T.ty26 rfl q0 (by simp [Dig.len]) (take_all e.sum.cells (by simp [Dig.len]))) rfl (by kernel_rfl) (qp_then qp_body) ⟨b3, b10⟩ ?_
        refine dr_y 4 rfl (fun _ => y_move rfl) rfl (by kernel_rfl) (qp_then qp_body) (fun _ => ⟨b3, b10⟩) ?_
        refine dr_y 5 rfl (fun _ => y_move rfl) rfl (by kernel_rfl) (qp_then qp_body) (fun _ => ⟨b3, b10⟩) ?_
        refine dr_1 (i := 6) (by kernel_rfl) ?_
        refine rd_d rfl (d_callR T.ent14 (vs := [.int .i64 a, .string ⟨t.toArray⟩]) rfl (line14_ok a t _ (by omega) (by omega) (by omega) hG) (by rintro e w' ⟨rfl, -⟩; exact ⟨_, rfl⟩)) rfl rfl ?_
        rintro v40 w38 ⟨hv41, f39⟩
        obtain rfl := ret_inj hv41
        replace hG := hG.fr0 f39
        replace b3 := b3.fr0 f39
        replace b10 := b10.fr0 f39
        have hF42 := hF37.then0 f39
        refine ⟨fun _ => ⟨b3, b10⟩, ?_⟩
        refine dr_1 (i := 7) (by kernel_rfl) ?_
        have hll : (line a t).length ≤ 549755813888 := by have h5 := itoa_len a (by omega) (by omega); simp only [line, List.length_append, List.length_singleton]; omega
        refine rd_d rfl (d_callR T.ent20 (vs := [.agg e.sum.cells.toArray, .string ⟨(line a t).toArray⟩]) rfl (chain20_ok e.sum (line a t) _ hll hG.r) (by rintro e w' ⟨rfl, -⟩; exact ⟨_, rfl⟩)) rfl rfl ?_
        rintro v45 w43 ⟨hv46, f44⟩
        obtain rfl := ret_inj hv46
        replace hG := hG.fr0 f44
        replace b3 := b3.fr0 f44
        replace b10 := b10.fr0 f44
        have hF47 := hF42.then0 f44
        refine ⟨fun _ => ⟨b3, b10⟩, ?_⟩
        refine dr_y 8 rfl (fun _ => y_build (vs := [(0, .int .i64 a), (1, .string ⟨t.toArray⟩), (2, .agg ((chain e.sum (line a t)).cells).toArray)]) rfl (T.lit6 a ⟨t.toArray⟩ ((chain e.sum (line a t)).cells) (by simp [Dig.len]) _)) rfl (by kernel_rfl) (qp_then qp_body) (fun _ => ⟨b3, b10⟩) ?_
        refine dr_1 (i := 9) (by kernel_rfl) ?_
        refine rd_d rfl (d_store (cs := ([.int .i64 a, .string ⟨t.toArray⟩] : List Value) ++ ((chain e.sum (line a t)).cells)) (l' := ([.int .i64 a, .string ⟨t.toArray⟩] : List Value) ++ ((chain e.sum (line a t)).cells)) T.ty28 rfl rfl b10 rfl (by simp [Dig.len]) (ones (by simp [all_bv, all_u32, all_ent, all_dig, all_ents])) (by simp [Dig.len, Dig.len]) (setL_all (by simp [Dig.len, Dig.len]))) rfl rfl ?_
        rintro _ w48 ⟨rfl, b49, f50⟩
        replace hG := hG.fr f50 (by simp; omega)
        replace b3 := b3.fr1 f50 ne13
        clear b10
        have hF51 := hF47.thenNew f50 nw14
        refine ⟨fun h => (Bool.false_ne_true (h.symm.trans (by kernel_rfl))).elim, ?_⟩
        refine dr_y 10 rfl (fun _ => y_assign rfl) rfl (by kernel_rfl) (qp_then qp_body) (fun h => (Bool.false_ne_true (h.symm.trans (by kernel_rfl))).elim) ?_
        refine dr_done (by kernel_rfl) ?_
        refine n_then ?_
        refine c_ret ?_
        refine fin2 (by simp) rfl (rv_A (xs := ([.int .i64 a, .string ⟨t.toArray⟩] : List Value) ++ ((chain e.sum (line a t)).cells)) T.ty28 rfl b49 (by simp [Dig.len]) (take_all _ (by simp [Dig.len]))) rfl ?_
        exact ⟨by rw [next_0 e a t (by omega) (by omega)]; rfl, hF51⟩

end Go.Proofs.YtojbephcahnbbaaDoor
