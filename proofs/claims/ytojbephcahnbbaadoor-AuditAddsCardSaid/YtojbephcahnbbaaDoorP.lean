/- The reference log: a record added; two logs alike. No condition. -/
import Derived.Test.YtojbephcahnbbaaDoorK
import Derived.Test.YtojbephcahnbbaaDoorO
import Derived.Test.YtojbephcahnbbaaDoorPT
import Derived.Test.YtojbephcahnbbaaDoorProg
set_option linter.unusedVariables false
set_option linter.unusedSimpArgs false
namespace Go.Proofs.YtojbephcahnbbaaDoor
open Go Go.Proofs.GP Go.Proofs.Tryd
set_option maxRecDepth 100000 in
theorem ref10_ok (A : Option Addr) (g o c : Nat) (es : List Ent) (a : Int) (t : List UInt8) (w : World) (h0 : -9223372036854775808 ≤ a) (h1 : a ≤ 9223372036854775807) (ht : t.length ≤ 9223372036854775807) (hl : es.length ≤ 4096) (hL0 : 0 ≤ (lastE es).at_) (hr : Row w A g o es.length 34 (ents es)) :
    Calls Tryd.prog 10 #[.slice A es.length c, .int .i64 a, .string ⟨t.toArray⟩] w fun e w' => e = .returned (.tuple #[.agg (addL es a t).1.cells.toArray, .int .i64 (addL es a t).2.1]) ∧ Fr [] w w' := by
  refine c_start (args := [.slice A es.length c, .int .i64 a, .string ⟨t.toArray⟩]) Tryd.func10 rfl rfl rfl ?_
  try simp only [enum, Nat.zero_add, Nat.reduceAdd]
  have hF0 := Fr.refl [] w
  have lt_hr := hr.lt'
  refine c_seq ?_
  refine c_region ?_
  refine s_d (d_alloc (cs := ([.int .i64 0, .string ⟨([] : List UInt8).toArray⟩] : List Value) ++ Dig.zero.cells) T.zero28 rfl) rfl rfl ?_
  rintro _ w2 ⟨g1, rfl, hg5, b3, f4⟩
  have ne6 := row_ne_new hr hg5
  have nw7 := Nat.le_trans hF0.size hg5
  replace hr := hr.fr0 f4
  have hF8 := hF0.then0 f4
  refine s_y (y_assign rfl) rfl rfl ?_
  refine s_nil ?_
  refine n_then ?_
  refine c_seq ?_
  refine c_region ?_
  refine s_y (y_build (vs := []) rfl (T.bz26 _)) rfl rfl ?_
  refine s_d (d_alloc (cs := Dig.zero.cells) T.zero26 rfl) rfl rfl ?_
  rintro _ w10 ⟨g9, rfl, hg13, b11, f12⟩
  have ne14 := row_ne_new hr hg13
  have ne15 : g1 ≠ g9 := Nat.ne_of_lt (Nat.lt_of_lt_of_le b3.lt hg13)
  have nw16 := Nat.le_trans hF8.size hg13
  replace hr := hr.fr0 f12
  replace b3 := b3.fr0 f12
  have hF17 := hF8.then0 f12
  refine s_y (y_assign rfl) rfl rfl ?_
  refine s_d (d_store (cs := Dig.zero.cells) (l' := Dig.zero.cells) T.ty26 rfl rfl b11 rfl (by simp [Dig.len]) (ones (by simp [all_bv, all_u32, all_ent, all_dig, all_ents])) (by simp [Dig.len, Dig.len]) (setL_all (by simp [Dig.len, Dig.len]))) rfl rfl ?_
  rintro _ w18 ⟨rfl, b19, f20⟩
  replace hr := hr.fr1 f20 ne14
  replace b3 := b3.fr1 f20 ne15
  clear b11
  have hF21 := hF17.thenNew f20 nw16
  refine s_nil ?_
  refine n_then ?_
  refine c_seq ?_
  refine c_seq ?_
  refine c_region ?_
  refine s_y (y_move rfl) rfl rfl ?_
  refine s_y (y_len Tryd.underlying25 rfl) rfl rfl ?_
  refine s_y (y_gtr rfl rfl rfl) rfl rfl ?_
  refine s_nil ?_
  refine n_then ?_
  refine c_cond rfl ?_ ?_
  · intro h22
    replace h22 : (0 : Int) < ↑es.length := of_decide_eq_true h22
    have hL := lastE_w es (by omega)
    have hLa := congrArg Ent.at_ hL
    refine dr_begin (fun W => Row W A g o es.length 34 (ents es) ∧ Blk W g1 28 (([.int .i64 0, .string ⟨([] : List UInt8).toArray⟩] : List Value) ++ Dig.zero.cells) ∧ Blk W g9 26 Dig.zero.cells) 15 (by kernel_rfl) ?_
    intro w23 f24
    replace hr := hr.fr0 f24
    replace b3 := b3.fr0 f24
    replace b19 := b19.fr0 f24
    have hF25 := hF21.then0 f24
    refine dr_y 0 rfl (fun _ => y_move rfl) rfl (by kernel_rfl) (qp_then qp_body) (fun _ => ⟨hr, b3, b19⟩) ?_
    refine dr_y 1 rfl (fun _ => y_move rfl) rfl (by kernel_rfl) (qp_then qp_body) (fun _ => ⟨hr, b3, b19⟩) ?_
    refine dr_y 2 rfl (fun _ => y_len Tryd.underlying25 rfl) rfl (by kernel_rfl) (qp_then qp_body) (fun _ => ⟨hr, b3, b19⟩) ?_
    refine dr_y 3 rfl (fun _ => y_sub rfl rfl (wrI (by omega) (by omega))) rfl (by kernel_rfl) (qp_then qp_body) (fun _ => ⟨hr, b3, b19⟩) ?_
    refine dr_y 4 rfl (fun _ => y_index (r := o + (es.length - 1) * 34) Tryd.underlying25 T.ty28 rfl rfl (hr.addr (j := (es.length - 1) * 34) (by rw [ents_len]; omega)) (by omega) (by omega) (by omega)) rfl (by kernel_rfl) (qp_then qp_body) (fun _ => ⟨hr, b3, b19⟩) ?_
    refine dr_y 5 rfl (fun _ => y_field rfl T.fld28_0 rfl) rfl (by kernel_rfl) (qp_then qp_body) (fun _ => ⟨hr, b3, b19⟩) ?_
    refine dr_l 6 rfl (fun _ hS => by obtain ⟨q0, q1, q2⟩ := hS; exact y_ldR (v := .int .i64 ((es.getD (es.length - 1) Ent.zero).at_)) (j := (es.length - 1) * 34) T.ty3 rfl q0 (by first | rfl | omega) (ents_0 es (es.length - 1) (by omega))) rfl (by kernel_rfl) (qp_then qp_body) ⟨hr, b3, b19⟩ ?_
    refine dr_y 7 rfl (fun _ => y_move rfl) rfl (by kernel_rfl) (qp_then qp_body) (fun _ => ⟨hr, b3, b19⟩) ?_
    refine dr_y 8 rfl (fun _ => y_move rfl) rfl (by kernel_rfl) (qp_then qp_body) (fun _ => ⟨hr, b3, b19⟩) ?_
    refine dr_y 9 rfl (fun _ => y_len Tryd.underlying25 rfl) rfl (by kernel_rfl) (qp_then qp_body) (fun _ => ⟨hr, b3, b19⟩) ?_
    refine dr_y 10 rfl (fun _ => y_sub rfl rfl (wrI (by omega) (by omega))) rfl (by kernel_rfl) (qp_then qp_body) (fun _ => ⟨hr, b3, b19⟩) ?_
    refine dr_y 11 rfl (fun _ => y_index (r := o + (es.length - 1) * 34) Tryd.underlying25 T.ty28 rfl rfl (hr.addr (j := (es.length - 1) * 34) (by rw [ents_len]; omega)) (by omega) (by omega) (by omega)) rfl (by kernel_rfl) (qp_then qp_body) (fun _ => ⟨hr, b3, b19⟩) ?_
    refine dr_y 12 rfl (fun _ => y_field rfl T.fld28_2 rfl) rfl (by kernel_rfl) (qp_then qp_body) (fun _ => ⟨hr, b3, b19⟩) ?_
    refine dr_l 13 rfl (fun _ hS => by obtain ⟨q0, q1, q2⟩ := hS; exact y_ldRA (xs := (((es.getD (es.length - 1) Ent.zero).sum).cells)) (j := (es.length - 1) * 34 + 2) T.ty26 rfl q0 (by first | rfl | omega) (Dig.len _) (ents_2 es (es.length - 1) (by omega))) rfl (by kernel_rfl) (qp_then qp_body) ⟨hr, b3, b19⟩ ?_
    refine dr_y 14 rfl (fun _ => y_assign rfl) rfl (by kernel_rfl) (qp_then qp_body) (fun _ => ⟨hr, b3, b19⟩) ?_
    refine dr_1 (i := 15) (by kernel_rfl) ?_
    refine rd_d rfl (d_store (cs := (((es.getD (es.length - 1) Ent.zero).sum).cells)) (l' := (((es.getD (es.length - 1) Ent.zero).sum).cells)) T.ty26 rfl rfl b19 rfl (by simp [Dig.len]) (ones (by simp [all_bv, all_u32, all_ent, all_dig, all_ents])) (by simp [Dig.len, Dig.len]) (setL_all (by simp [Dig.len, Dig.len]))) rfl rfl ?_
    rintro _ w26 ⟨rfl, b27, f28⟩
    replace hr := hr.fr1 f28 ne14
    replace b3 := b3.fr1 f28 ne15
    clear b19
    have hF29 := hF25.thenNew f28 nw16
    refine ⟨fun h => (Bool.false_ne_true (h.symm.trans (by kernel_rfl))).elim, ?_⟩
    refine dr_done (by kernel_rfl) ?_
    refine n_then ?_
    refine c_seq ?_
    refine c_block ?_
    refine c_seq ?_
    refine c_region ?_
    refine s_y (y_move rfl) rfl rfl ?_
    refine s_y (y_move rfl) rfl rfl ?_
    refine s_y (y_lss rfl rfl rfl) rfl rfl ?_
    refine s_y (y_move rfl) rfl rfl ?_
    refine wl_bool (decide ((a : Int) < ((es.getD (es.length - 1) Ent.zero).at_))) ?_ ?_
    · intro hb30
      rw [hb30]
      have hp31 : (a : Int) < ((es.getD (es.length - 1) Ent.zero).at_) := of_decide_eq_true hb30
      clear hb30
      refine s_skip ⟨_, _, _, _, rfl, rfl, rfl, rfl⟩ rfl ?_
      refine s_skip ⟨_, _, _, _, rfl, rfl, rfl, rfl⟩ rfl ?_
      refine s_y (y_pick rfl rfl rfl rfl) rfl rfl ?_
      refine s_y (y_assign rfl) rfl rfl ?_
      refine s_nil ?_
      refine n_then ?_
      refine c_true rfl ?_
      refine c_seq ?_
      refine c_region ?_
      refine s_y (y_build (vs := []) rfl (T.bz28 _)) rfl rfl ?_
      refine s_d (d_store (cs := ([.int .i64 0, .string ⟨([] : List UInt8).toArray⟩] : List Value) ++ Dig.zero.cells) (l' := ([.int .i64 0, .string ⟨([] : List UInt8).toArray⟩] : List Value) ++ Dig.zero.cells) T.ty28 rfl rfl b3 rfl (by simp [Dig.len]) (ones (by simp [all_bv, all_u32, all_ent, all_dig, all_ents])) (by simp [Dig.len, Dig.len]) (setL_all (by simp [Dig.len, Dig.len]))) rfl rfl ?_
      rintro _ w32 ⟨rfl, b33, f34⟩
      replace hr := hr.fr1 f34 ne6
      replace b27 := b27.fr1 f34 ne15.symm
      clear b3
      have hF35 := hF29.thenNew f34 nw7
      refine s_y (y_assign rfl) rfl rfl ?_
      refine s_nil ?_
      refine n_then ?_
      refine c_ret ?_
      refine r_inb ?_
      refine r_then ?_
      refine fin2 (by simp) rfl (rv_A (xs := ([.int .i64 0, .string ⟨([] : List UInt8).toArray⟩] : List Value) ++ Dig.zero.cells) T.ty28 rfl b33 (by simp [Dig.len]) (take_all _ (by simp [Dig.len]))) rfl ?_
      rw [add_e es a t (by rw [next_2 (lastE es) a t (by omega)]; decide), next_2 (lastE es) a t (by omega)]
      exact ⟨rfl, hF35⟩
    · intro hb30
      rw [hb30]
      have hp36 : ¬ ((a : Int) < ((es.getD (es.length - 1) Ent.zero).at_)) := of_decide_eq_false hb30
      clear hb30
      refine s_gy (y_move rfl) ⟨_, _, _, _, rfl, rfl, rfl, rfl⟩ rfl ?_
      refine s_gy (y_gtr rfl rfl rfl) ⟨_, _, _, _, rfl, rfl, rfl, rfl⟩ rfl ?_
      refine s_y (y_pick rfl rfl rfl rfl) rfl rfl ?_
      refine s_y (y_assign rfl) rfl rfl ?_
      refine s_nil ?_
      refine n_then ?_
      refine c_cond rfl ?_ ?_
      · intro h37
        replace h37 : (1099511627776 : Int) < a := of_decide_eq_true h37
        refine c_seq ?_
        refine c_region ?_
        refine s_y (y_build (vs := []) rfl (T.bz28 _)) rfl rfl ?_
        refine s_d (d_store (cs := ([.int .i64 0, .string ⟨([] : List UInt8).toArray⟩] : List Value) ++ Dig.zero.cells) (l' := ([.int .i64 0, .string ⟨([] : List UInt8).toArray⟩] : List Value) ++ Dig.zero.cells) T.ty28 rfl rfl b3 rfl (by simp [Dig.len]) (ones (by simp [all_bv, all_u32, all_ent, all_dig, all_ents])) (by simp [Dig.len, Dig.len]) (setL_all (by simp [Dig.len, Dig.len]))) rfl rfl ?_
        rintro _ w38 ⟨rfl, b39, f40⟩
        replace hr := hr.fr1 f40 ne6
        replace b27 := b27.fr1 f40 ne15.symm
        clear b3
        have hF41 := hF29.thenNew f40 nw7
        refine s_y (y_assign rfl) rfl rfl ?_
        refine s_nil ?_
        refine n_then ?_
        refine c_ret ?_
        refine r_inb ?_
        refine r_then ?_
        refine fin2 (by simp) rfl (rv_A (xs := ([.int .i64 0, .string ⟨([] : List UInt8).toArray⟩] : List Value) ++ Dig.zero.cells) T.ty28 rfl b39 (by simp [Dig.len]) (take_all _ (by simp [Dig.len]))) rfl ?_
        rw [add_e es a t (by rw [next_2 (lastE es) a t (by omega)]; decide), next_2 (lastE es) a t (by omega)]
        exact ⟨rfl, hF41⟩
      · intro h42
        replace h42 : ¬ ((1099511627776 : Int) < a) := of_decide_eq_false h42
        refine c_seq ?_
        refine c_region ?_
        refine s_y (y_move rfl) rfl rfl ?_
        refine s_y (y_lenS Tryd.underlying9 rfl) rfl rfl ?_
        refine s_y (y_gtr rfl rfl rfl) rfl rfl ?_
        refine s_y (y_move rfl) rfl rfl ?_
        refine wl_bool (decide ((65536 : Int) < ↑t.length)) ?_ ?_
        · intro hb43
          rw [hb43]
          have hp44 : (65536 : Int) < ↑t.length := of_decide_eq_true hb43
          clear hb43
          refine s_skip ⟨_, _, _, _, rfl, rfl, rfl, rfl⟩ rfl ?_
          refine s_skip ⟨_, _, _, _, rfl, rfl, rfl, rfl⟩ rfl ?_
          refine s_skip ⟨_, _, _, _, rfl, rfl, rfl, rfl⟩ rfl ?_
          refine s_y (y_pick rfl rfl rfl rfl) rfl rfl ?_
          refine s_y (y_assign rfl) rfl rfl ?_
          refine s_nil ?_
          refine n_then ?_
          refine c_true rfl ?_
          refine c_seq ?_
          refine c_region ?_
          refine s_y (y_build (vs := []) rfl (T.bz28 _)) rfl rfl ?_
          refine s_d (d_store (cs := ([.int .i64 0, .string ⟨([] : List UInt8).toArray⟩] : List Value) ++ Dig.zero.cells) (l' := ([.int .i64 0, .string ⟨([] : List UInt8).toArray⟩] : List Value) ++ Dig.zero.cells) T.ty28 rfl rfl b3 rfl (by simp [Dig.len]) (ones (by simp [all_bv, all_u32, all_ent, all_dig, all_ents])) (by simp [Dig.len, Dig.len]) (setL_all (by simp [Dig.len, Dig.len]))) rfl rfl ?_
          rintro _ w45 ⟨rfl, b46, f47⟩
          replace hr := hr.fr1 f47 ne6
          replace b27 := b27.fr1 f47 ne15.symm
          clear b3
          have hF48 := hF29.thenNew f47 nw7
          refine s_y (y_assign rfl) rfl rfl ?_
          refine s_nil ?_
          refine n_then ?_
          refine c_ret ?_
          refine r_inb ?_
          refine r_then ?_
          refine fin2 (by simp) rfl (rv_A (xs := ([.int .i64 0, .string ⟨([] : List UInt8).toArray⟩] : List Value) ++ Dig.zero.cells) T.ty28 rfl b46 (by simp [Dig.len]) (take_all _ (by simp [Dig.len]))) rfl ?_
          rw [add_e es a t (by rw [next_3 (lastE es) a t (by omega) (by omega)]; decide), next_3 (lastE es) a t (by omega) (by omega)]
          exact ⟨rfl, hF48⟩
        · intro hb43
          rw [hb43]
          have hp49 : ¬ ((65536 : Int) < ↑t.length) := of_decide_eq_false hb43
          clear hb43
          refine s_gy (y_move rfl) ⟨_, _, _, _, rfl, rfl, rfl, rfl⟩ rfl ?_
          refine s_gy (y_len Tryd.underlying25 rfl) ⟨_, _, _, _, rfl, rfl, rfl, rfl⟩ rfl ?_
          refine s_gy (y_geq rfl rfl rfl) ⟨_, _, _, _, rfl, rfl, rfl, rfl⟩ rfl ?_
          refine s_y (y_pick rfl rfl rfl rfl) rfl rfl ?_
          refine s_y (y_assign rfl) rfl rfl ?_
          refine s_nil ?_
          refine n_then ?_
          refine c_cond rfl ?_ ?_
          · intro h50
            replace h50 : (4096 : Int) ≤ ↑es.length := of_decide_eq_true h50
            refine c_seq ?_
            refine c_region ?_
            refine s_y (y_build (vs := []) rfl (T.bz28 _)) rfl rfl ?_
            refine s_d (d_store (cs := ([.int .i64 0, .string ⟨([] : List UInt8).toArray⟩] : List Value) ++ Dig.zero.cells) (l' := ([.int .i64 0, .string ⟨([] : List UInt8).toArray⟩] : List Value) ++ Dig.zero.cells) T.ty28 rfl rfl b3 rfl (by simp [Dig.len]) (ones (by simp [all_bv, all_u32, all_ent, all_dig, all_ents])) (by simp [Dig.len, Dig.len]) (setL_all (by simp [Dig.len, Dig.len]))) rfl rfl ?_
            rintro _ w51 ⟨rfl, b52, f53⟩
            replace hr := hr.fr1 f53 ne6
            replace b27 := b27.fr1 f53 ne15.symm
            clear b3
            have hF54 := hF29.thenNew f53 nw7
            refine s_y (y_assign rfl) rfl rfl ?_
            refine s_nil ?_
            refine n_then ?_
            refine c_ret ?_
            refine r_inb ?_
            refine r_then ?_
            refine fin2 (by simp) rfl (rv_A (xs := ([.int .i64 0, .string ⟨([] : List UInt8).toArray⟩] : List Value) ++ Dig.zero.cells) T.ty28 rfl b52 (by simp [Dig.len]) (take_all _ (by simp [Dig.len]))) rfl ?_
            rw [add_f es a t (by rw [next_0 (lastE es) a t (by omega) (by omega)]) (by omega)]
            exact ⟨rfl, hF54⟩
          · intro h55
            replace h55 : ¬ ((4096 : Int) ≤ ↑es.length) := of_decide_eq_false h55
            refine c_skip ?_
            refine n_inb ?_
            refine n_then ?_
            refine c_seq ?_
            refine dr_begin (fun W => Row W A g o es.length 34 (ents es) ∧ Blk W g1 28 (([.int .i64 0, .string ⟨([] : List UInt8).toArray⟩] : List Value) ++ Dig.zero.cells) ∧ Blk W g9 26 (((es.getD (es.length - 1) Ent.zero).sum).cells)) 8 (by kernel_rfl) ?_
            intro w56 f57
            replace hr := hr.fr0 f57
            replace b3 := b3.fr0 f57
            replace b27 := b27.fr0 f57
            have hF58 := hF29.then0 f57
            refine dr_y 0 rfl (fun _ => y_move rfl) rfl (by kernel_rfl) (qp_then qp_body) (fun _ => ⟨hr, b3, b27⟩) ?_
            refine dr_y 1 rfl (fun _ => y_move rfl) rfl (by kernel_rfl) (qp_then qp_body) (fun _ => ⟨hr, b3, b27⟩) ?_
            refine dr_l 2 rfl (fun _ hS => by obtain ⟨q0, q1, q2⟩ := hS; exact y_ldBA (xs := (((es.getD (es.length - 1) Ent.zero).sum).cells)) T.ty26 rfl q2 (by simp [Dig.len]) (take_all _ (by simp [Dig.len]))) rfl (by kernel_rfl) (qp_then qp_body) ⟨hr, b3, b27⟩ ?_
            refine dr_y 3 rfl (fun _ => y_move rfl) rfl (by kernel_rfl) (qp_then qp_body) (fun _ => ⟨hr, b3, b27⟩) ?_
            refine dr_y 4 rfl (fun _ => y_move rfl) rfl (by kernel_rfl) (qp_then qp_body) (fun _ => ⟨hr, b3, b27⟩) ?_
            refine dr_1 (i := 5) (by kernel_rfl) ?_
            have hcl := line29_ok a.toNat t w56 (by omega) (by omega)
            rw [Int.toNat_of_nonneg (by omega)] at hcl
            refine rd_d rfl (d_callR T.ent29 (vs := [.int .i64 a, .string ⟨t.toArray⟩]) rfl (hcl) (by rintro e w' ⟨rfl, -⟩; exact ⟨_, rfl⟩)) rfl rfl ?_
            rintro v61 w59 ⟨hv62, f60⟩
            obtain rfl := ret_inj hv62
            replace hr := hr.fr0 f60
            replace b3 := b3.fr0 f60
            replace b27 := b27.fr0 f60
            have hF63 := hF58.then0 f60
            refine ⟨fun _ => ⟨hr, b3, b27⟩, ?_⟩
            refine dr_1 (i := 6) (by kernel_rfl) ?_
            have hil := itoa_len a (by omega) (by omega)
            refine rd_d rfl (d_callR T.ent28 (vs := [.agg (((es.getD (es.length - 1) Ent.zero).sum).cells).toArray, .string ⟨(line a t).toArray⟩]) rfl (chain28_ok ((es.getD (es.length - 1) Ent.zero).sum) (line a t) _ (by simp only [line, List.length_append, List.length_singleton]; omega)) (by rintro e w' ⟨rfl, -⟩; exact ⟨_, rfl⟩)) rfl rfl ?_
            rintro v66 w64 ⟨hv67, f65⟩
            obtain rfl := ret_inj hv67
            replace hr := hr.fr0 f65
            replace b3 := b3.fr0 f65
            replace b27 := b27.fr0 f65
            have hF68 := hF63.then0 f65
            refine ⟨fun _ => ⟨hr, b3, b27⟩, ?_⟩
            refine dr_y 7 rfl (fun _ => y_build (vs := [(0, .int .i64 a), (1, .string ⟨t.toArray⟩), (2, .agg ((chain ((es.getD (es.length - 1) Ent.zero).sum) (line a t)).cells).toArray)]) rfl (T.lit6 a ⟨t.toArray⟩ ((chain ((es.getD (es.length - 1) Ent.zero).sum) (line a t)).cells) (by simp [Dig.len]) _)) rfl (by kernel_rfl) (qp_then qp_body) (fun _ => ⟨hr, b3, b27⟩) ?_
            refine dr_1 (i := 8) (by kernel_rfl) ?_
            refine rd_d rfl (d_store (cs := ([.int .i64 a, .string ⟨t.toArray⟩] : List Value) ++ ((chain ((es.getD (es.length - 1) Ent.zero).sum) (line a t)).cells)) (l' := ([.int .i64 a, .string ⟨t.toArray⟩] : List Value) ++ ((chain ((es.getD (es.length - 1) Ent.zero).sum) (line a t)).cells)) T.ty28 rfl rfl b3 rfl (by simp [Dig.len]) (ones (by simp [all_bv, all_u32, all_ent, all_dig, all_ents])) (by simp [Dig.len, Dig.len]) (setL_all (by simp [Dig.len, Dig.len]))) rfl rfl ?_
            rintro _ w69 ⟨rfl, b70, f71⟩
            replace hr := hr.fr1 f71 ne6
            replace b27 := b27.fr1 f71 ne15.symm
            clear b3
            have hF72 := hF68.thenNew f71 nw7
            refine ⟨fun h => (Bool.false_ne_true (h.symm.trans (by kernel_rfl))).elim, ?_⟩
            refine dr_y 9 rfl (fun _ => y_assign rfl) rfl (by kernel_rfl) (qp_then qp_body) (fun h => (Bool.false_ne_true (h.symm.trans (by kernel_rfl))).elim) ?_
            refine dr_done (by kernel_rfl) ?_
            refine n_then ?_
            refine c_ret ?_
            refine fin2 (by simp) rfl (rv_A (xs := ([.int .i64 a, .string ⟨t.toArray⟩] : List Value) ++ ((chain ((es.getD (es.length - 1) Ent.zero).sum) (line a t)).cells)) T.ty28 rfl b70 (by simp [Dig.len]) (take_all _ (by simp [Dig.len]))) rfl ?_
            rw [add_k es a t (by rw [next_0 (lastE es) a t (by omega) (by omega)]) (by omega), next_0 (lastE es) a t (by omega) (by omega), hL]
            exact ⟨rfl, hF72⟩
  · intro h73
    replace h73 : ¬ ((0 : Int) < ↑es.length) := of_decide_eq_false h73
    have hes : es = [] := List.eq_nil_of_length_eq_zero (by omega)
    have hL : lastE es = Ent.zero := by rw [hes]; rfl
    have hLa : (lastE es).at_ = 0 := by rw [hL]; rfl
    refine c_skip ?_
    refine n_then ?_
    refine c_seq ?_
    refine c_block ?_
    refine c_seq ?_
    refine c_region ?_
    refine s_y (y_move rfl) rfl rfl ?_
    refine s_y (y_move rfl) rfl rfl ?_
    refine s_y (y_lss rfl rfl rfl) rfl rfl ?_
    refine s_y (y_move rfl) rfl rfl ?_
    refine wl_bool (decide ((a : Int) < 0)) ?_ ?_
    · intro hb74
      rw [hb74]
      have hp75 : (a : Int) < 0 := of_decide_eq_true hb74
      clear hb74
      refine s_skip ⟨_, _, _, _, rfl, rfl, rfl, rfl⟩ rfl ?_
      refine s_skip ⟨_, _, _, _, rfl, rfl, rfl, rfl⟩ rfl ?_
      refine s_y (y_pick rfl rfl rfl rfl) rfl rfl ?_
      refine s_y (y_assign rfl) rfl rfl ?_
      refine s_nil ?_
      refine n_then ?_
      refine c_true rfl ?_
      refine c_seq ?_
      refine c_region ?_
      refine s_y (y_build (vs := []) rfl (T.bz28 _)) rfl rfl ?_
      refine s_d (d_store (cs := ([.int .i64 0, .string ⟨([] : List UInt8).toArray⟩] : List Value) ++ Dig.zero.cells) (l' := ([.int .i64 0, .string ⟨([] : List UInt8).toArray⟩] : List Value) ++ Dig.zero.cells) T.ty28 rfl rfl b3 rfl (by simp [Dig.len]) (ones (by simp [all_bv, all_u32, all_ent, all_dig, all_ents])) (by simp [Dig.len, Dig.len]) (setL_all (by simp [Dig.len, Dig.len]))) rfl rfl ?_
      rintro _ w76 ⟨rfl, b77, f78⟩
      replace hr := hr.fr1 f78 ne6
      replace b19 := b19.fr1 f78 ne15.symm
      clear b3
      have hF79 := hF21.thenNew f78 nw7
      refine s_y (y_assign rfl) rfl rfl ?_
      refine s_nil ?_
      refine n_then ?_
      refine c_ret ?_
      refine r_inb ?_
      refine r_then ?_
      refine fin2 (by simp) rfl (rv_A (xs := ([.int .i64 0, .string ⟨([] : List UInt8).toArray⟩] : List Value) ++ Dig.zero.cells) T.ty28 rfl b77 (by simp [Dig.len]) (take_all _ (by simp [Dig.len]))) rfl ?_
      rw [add_e es a t (by rw [next_2 (lastE es) a t (by omega)]; decide), next_2 (lastE es) a t (by omega)]
      exact ⟨rfl, hF79⟩
    · intro hb74
      rw [hb74]
      have hp80 : ¬ ((a : Int) < 0) := of_decide_eq_false hb74
      clear hb74
      refine s_gy (y_move rfl) ⟨_, _, _, _, rfl, rfl, rfl, rfl⟩ rfl ?_
      refine s_gy (y_gtr rfl rfl rfl) ⟨_, _, _, _, rfl, rfl, rfl, rfl⟩ rfl ?_
      refine s_y (y_pick rfl rfl rfl rfl) rfl rfl ?_
      refine s_y (y_assign rfl) rfl rfl ?_
      refine s_nil ?_
      refine n_then ?_
      refine c_cond rfl ?_ ?_
      · intro h81
        replace h81 : (1099511627776 : Int) < a := of_decide_eq_true h81
        refine c_seq ?_
        refine c_region ?_
        refine s_y (y_build (vs := []) rfl (T.bz28 _)) rfl rfl ?_
        refine s_d (d_store (cs := ([.int .i64 0, .string ⟨([] : List UInt8).toArray⟩] : List Value) ++ Dig.zero.cells) (l' := ([.int .i64 0, .string ⟨([] : List UInt8).toArray⟩] : List Value) ++ Dig.zero.cells) T.ty28 rfl rfl b3 rfl (by simp [Dig.len]) (ones (by simp [all_bv, all_u32, all_ent, all_dig, all_ents])) (by simp [Dig.len, Dig.len]) (setL_all (by simp [Dig.len, Dig.len]))) rfl rfl ?_
        rintro _ w82 ⟨rfl, b83, f84⟩
        replace hr := hr.fr1 f84 ne6
        replace b19 := b19.fr1 f84 ne15.symm
        clear b3
        have hF85 := hF21.thenNew f84 nw7
        refine s_y (y_assign rfl) rfl rfl ?_
        refine s_nil ?_
        refine n_then ?_
        refine c_ret ?_
        refine r_inb ?_
        refine r_then ?_
        refine fin2 (by simp) rfl (rv_A (xs := ([.int .i64 0, .string ⟨([] : List UInt8).toArray⟩] : List Value) ++ Dig.zero.cells) T.ty28 rfl b83 (by simp [Dig.len]) (take_all _ (by simp [Dig.len]))) rfl ?_
        rw [add_e es a t (by rw [next_2 (lastE es) a t (by omega)]; decide), next_2 (lastE es) a t (by omega)]
        exact ⟨rfl, hF85⟩
      · intro h86
        replace h86 : ¬ ((1099511627776 : Int) < a) := of_decide_eq_false h86
        refine c_seq ?_
        refine c_region ?_
        refine s_y (y_move rfl) rfl rfl ?_
        refine s_y (y_lenS Tryd.underlying9 rfl) rfl rfl ?_
        refine s_y (y_gtr rfl rfl rfl) rfl rfl ?_
        refine s_y (y_move rfl) rfl rfl ?_
        refine wl_bool (decide ((65536 : Int) < ↑t.length)) ?_ ?_
        · intro hb87
          rw [hb87]
          have hp88 : (65536 : Int) < ↑t.length := of_decide_eq_true hb87
          clear hb87
          refine s_skip ⟨_, _, _, _, rfl, rfl, rfl, rfl⟩ rfl ?_
          refine s_skip ⟨_, _, _, _, rfl, rfl, rfl, rfl⟩ rfl ?_
          refine s_skip ⟨_, _, _, _, rfl, rfl, rfl, rfl⟩ rfl ?_
          refine s_y (y_pick rfl rfl rfl rfl) rfl rfl ?_
          refine s_y (y_assign rfl) rfl rfl ?_
          refine s_nil ?_
          refine n_then ?_
          refine c_true rfl ?_
          refine c_seq ?_
          refine c_region ?_
          refine s_y (y_build (vs := []) rfl (T.bz28 _)) rfl rfl ?_
          refine s_d (d_store (cs := ([.int .i64 0, .string ⟨([] : List UInt8).toArray⟩] : List Value) ++ Dig.zero.cells) (l' := ([.int .i64 0, .string ⟨([] : List UInt8).toArray⟩] : List Value) ++ Dig.zero.cells) T.ty28 rfl rfl b3 rfl (by simp [Dig.len]) (ones (by simp [all_bv, all_u32, all_ent, all_dig, all_ents])) (by simp [Dig.len, Dig.len]) (setL_all (by simp [Dig.len, Dig.len]))) rfl rfl ?_
          rintro _ w89 ⟨rfl, b90, f91⟩
          replace hr := hr.fr1 f91 ne6
          replace b19 := b19.fr1 f91 ne15.symm
          clear b3
          have hF92 := hF21.thenNew f91 nw7
          refine s_y (y_assign rfl) rfl rfl ?_
          refine s_nil ?_
          refine n_then ?_
          refine c_ret ?_
          refine r_inb ?_
          refine r_then ?_
          refine fin2 (by simp) rfl (rv_A (xs := ([.int .i64 0, .string ⟨([] : List UInt8).toArray⟩] : List Value) ++ Dig.zero.cells) T.ty28 rfl b90 (by simp [Dig.len]) (take_all _ (by simp [Dig.len]))) rfl ?_
          rw [add_e es a t (by rw [next_3 (lastE es) a t (by omega) (by omega)]; decide), next_3 (lastE es) a t (by omega) (by omega)]
          exact ⟨rfl, hF92⟩
        · intro hb87
          rw [hb87]
          have hp93 : ¬ ((65536 : Int) < ↑t.length) := of_decide_eq_false hb87
          clear hb87
          refine s_gy (y_move rfl) ⟨_, _, _, _, rfl, rfl, rfl, rfl⟩ rfl ?_
          refine s_gy (y_len Tryd.underlying25 rfl) ⟨_, _, _, _, rfl, rfl, rfl, rfl⟩ rfl ?_
          refine s_gy (y_geq rfl rfl rfl) ⟨_, _, _, _, rfl, rfl, rfl, rfl⟩ rfl ?_
          refine s_y (y_pick rfl rfl rfl rfl) rfl rfl ?_
          refine s_y (y_assign rfl) rfl rfl ?_
          refine s_nil ?_
          refine n_then ?_
          refine c_cond rfl ?_ ?_
          · intro h94
            replace h94 : (4096 : Int) ≤ ↑es.length := of_decide_eq_true h94
            refine c_seq ?_
            refine c_region ?_
            refine s_y (y_build (vs := []) rfl (T.bz28 _)) rfl rfl ?_
            refine s_d (d_store (cs := ([.int .i64 0, .string ⟨([] : List UInt8).toArray⟩] : List Value) ++ Dig.zero.cells) (l' := ([.int .i64 0, .string ⟨([] : List UInt8).toArray⟩] : List Value) ++ Dig.zero.cells) T.ty28 rfl rfl b3 rfl (by simp [Dig.len]) (ones (by simp [all_bv, all_u32, all_ent, all_dig, all_ents])) (by simp [Dig.len, Dig.len]) (setL_all (by simp [Dig.len, Dig.len]))) rfl rfl ?_
            rintro _ w95 ⟨rfl, b96, f97⟩
            replace hr := hr.fr1 f97 ne6
            replace b19 := b19.fr1 f97 ne15.symm
            clear b3
            have hF98 := hF21.thenNew f97 nw7
            refine s_y (y_assign rfl) rfl rfl ?_
            refine s_nil ?_
            refine n_then ?_
            refine c_ret ?_
            refine r_inb ?_
            refine r_then ?_
            refine fin2 (by simp) rfl (rv_A (xs := ([.int .i64 0, .string ⟨([] : List UInt8).toArray⟩] : List Value) ++ Dig.zero.cells) T.ty28 rfl b96 (by simp [Dig.len]) (take_all _ (by simp [Dig.len]))) rfl ?_
            rw [add_f es a t (by rw [next_0 (lastE es) a t (by omega) (by omega)]) (by omega)]
            exact ⟨rfl, hF98⟩
          · intro h99
            replace h99 : ¬ ((4096 : Int) ≤ ↑es.length) := of_decide_eq_false h99
            refine c_skip ?_
            refine n_inb ?_
            refine n_then ?_
            refine c_seq ?_
            refine dr_begin (fun W => Row W A g o es.length 34 (ents es) ∧ Blk W g1 28 (([.int .i64 0, .string ⟨([] : List UInt8).toArray⟩] : List Value) ++ Dig.zero.cells) ∧ Blk W g9 26 Dig.zero.cells) 8 (by kernel_rfl) ?_
            intro w100 f101
            replace hr := hr.fr0 f101
            replace b3 := b3.fr0 f101
            replace b19 := b19.fr0 f101
            have hF102 := hF21.then0 f101
            refine dr_y 0 rfl (fun _ => y_move rfl) rfl (by kernel_rfl) (qp_then qp_body) (fun _ => ⟨hr, b3, b19⟩) ?_
            refine dr_y 1 rfl (fun _ => y_move rfl) rfl (by kernel_rfl) (qp_then qp_body) (fun _ => ⟨hr, b3, b19⟩) ?_
            refine dr_l 2 rfl (fun _ hS => by obtain ⟨q0, q1, q2⟩ := hS; exact y_ldBA (xs := Dig.zero.cells) T.ty26 rfl q2 (by simp [Dig.len]) (take_all _ (by simp [Dig.len]))) rfl (by kernel_rfl) (qp_then qp_body) ⟨hr, b3, b19⟩ ?_
            refine dr_y 3 rfl (fun _ => y_move rfl) rfl (by kernel_rfl) (qp_then qp_body) (fun _ => ⟨hr, b3, b19⟩) ?_
            refine dr_y 4 rfl (fun _ => y_move rfl) rfl (by kernel_rfl) (qp_then qp_body) (fun _ => ⟨hr, b3, b19⟩) ?_
            refine dr_1 (i := 5) (by kernel_rfl) ?_
            have hcl := line29_ok a.toNat t w100 (by omega) (by omega)
            rw [Int.toNat_of_nonneg (by omega)] at hcl
            refine rd_d rfl (d_callR T.ent29 (vs := [.int .i64 a, .string ⟨t.toArray⟩]) rfl (hcl) (by rintro e w' ⟨rfl, -⟩; exact ⟨_, rfl⟩)) rfl rfl ?_
            rintro v105 w103 ⟨hv106, f104⟩
            obtain rfl := ret_inj hv106
            replace hr := hr.fr0 f104
            replace b3 := b3.fr0 f104
            replace b19 := b19.fr0 f104
            have hF107 := hF102.then0 f104
            refine ⟨fun _ => ⟨hr, b3, b19⟩, ?_⟩
            refine dr_1 (i := 6) (by kernel_rfl) ?_
            have hil := itoa_len a (by omega) (by omega)
            refine rd_d rfl (d_callR T.ent28 (vs := [.agg Dig.zero.cells.toArray, .string ⟨(line a t).toArray⟩]) rfl (chain28_ok Dig.zero (line a t) _ (by simp only [line, List.length_append, List.length_singleton]; omega)) (by rintro e w' ⟨rfl, -⟩; exact ⟨_, rfl⟩)) rfl rfl ?_
            rintro v110 w108 ⟨hv111, f109⟩
            obtain rfl := ret_inj hv111
            replace hr := hr.fr0 f109
            replace b3 := b3.fr0 f109
            replace b19 := b19.fr0 f109
            have hF112 := hF107.then0 f109
            refine ⟨fun _ => ⟨hr, b3, b19⟩, ?_⟩
            refine dr_y 7 rfl (fun _ => y_build (vs := [(0, .int .i64 a), (1, .string ⟨t.toArray⟩), (2, .agg ((chain Dig.zero (line a t)).cells).toArray)]) rfl (T.lit6 a ⟨t.toArray⟩ ((chain Dig.zero (line a t)).cells) (by simp [Dig.len]) _)) rfl (by kernel_rfl) (qp_then qp_body) (fun _ => ⟨hr, b3, b19⟩) ?_
            refine dr_1 (i := 8) (by kernel_rfl) ?_
            refine rd_d rfl (d_store (cs := ([.int .i64 a, .string ⟨t.toArray⟩] : List Value) ++ ((chain Dig.zero (line a t)).cells)) (l' := ([.int .i64 a, .string ⟨t.toArray⟩] : List Value) ++ ((chain Dig.zero (line a t)).cells)) T.ty28 rfl rfl b3 rfl (by simp [Dig.len]) (ones (by simp [all_bv, all_u32, all_ent, all_dig, all_ents])) (by simp [Dig.len, Dig.len]) (setL_all (by simp [Dig.len, Dig.len]))) rfl rfl ?_
            rintro _ w113 ⟨rfl, b114, f115⟩
            replace hr := hr.fr1 f115 ne6
            replace b19 := b19.fr1 f115 ne15.symm
            clear b3
            have hF116 := hF112.thenNew f115 nw7
            refine ⟨fun h => (Bool.false_ne_true (h.symm.trans (by kernel_rfl))).elim, ?_⟩
            refine dr_y 9 rfl (fun _ => y_assign rfl) rfl (by kernel_rfl) (qp_then qp_body) (fun h => (Bool.false_ne_true (h.symm.trans (by kernel_rfl))).elim) ?_
            refine dr_done (by kernel_rfl) ?_
            refine n_then ?_
            refine c_ret ?_
            refine fin2 (by simp) rfl (rv_A (xs := ([.int .i64 a, .string ⟨t.toArray⟩] : List Value) ++ ((chain Dig.zero (line a t)).cells)) T.ty28 rfl b114 (by simp [Dig.len]) (take_all _ (by simp [Dig.len]))) rfl ?_
            rw [add_k es a t (by rw [next_0 (lastE es) a t (by omega) (by omega)]) (by omega), next_0 (lastE es) a t (by omega) (by omega), hL]
            exact ⟨rfl, hF116⟩

set_option maxRecDepth 100000 in
theorem same12_ok (A B : Option Addr) (g h o q c d : Nat) (es : List Ent) (w : World) (hl : es.length ≤ 4096) (hr : Row w A g o es.length 34 (ents es)) (hq : Row w B h q es.length 34 (ents es)) :
    Calls Tryd.prog 12 #[.slice A es.length c, .slice B es.length d] w fun e w' => e = .returned (.bool true) ∧ Fr [] w w' := by
  refine c_start (args := [.slice A es.length c, .slice B es.length d]) Tryd.func12 rfl rfl rfl ?_
  try simp only [enum, Nat.zero_add, Nat.reduceAdd]
  have hF0 := Fr.refl [] w
  have lt_hr := hr.lt'
  have lt_hq := hq.lt'
  refine c_seq ?_
  refine c_region ?_
  refine s_y (y_assign rfl) rfl rfl ?_
  refine s_nil ?_
  refine n_then ?_
  refine c_seq ?_
  refine c_seq ?_
  refine c_region ?_
  refine s_y (y_move rfl) rfl rfl ?_
  refine s_y (y_len Tryd.underlying25 rfl) rfl rfl ?_
  refine s_y (y_move rfl) rfl rfl ?_
  refine s_y (y_len Tryd.underlying25 rfl) rfl rfl ?_
  refine s_y (y_neq (r := false) rfl rfl (by simp)) rfl rfl ?_
  refine s_nil ?_
  refine n_then ?_
  refine c_false rfl ?_
  refine c_skip ?_
  refine n_then ?_
  refine c_seq ?_
  refine c_seq ?_
  refine c_region ?_
  refine s_y (y_assign rfl) rfl rfl ?_
  refine s_nil ?_
  refine n_then ?_
  refine c_block ?_
  refine c_loop (fun m a W => ∃ i : Nat, m = es.length - i ∧ GP.St 26 [(0, .slice A es.length c), (1, .slice B es.length d), (5, .int .i64 ↑i)] a ∧ Fr [] w W ∧ Row W A g o es.length 34 (ents es) ∧ Row W B h q es.length 34 (ents es) ∧ (i ≤ es.length)) (es.length) ?_ ?_
  · intro a ha
    exact ⟨0, rfl, ha.cut ⟨rfl, rfl, rfl, trivial⟩, hF0, hr, hq, Nat.zero_le _⟩
  · rintro _ a W1 ⟨i, rfl, hst3, hF4, hr, hq, hi⟩
    refine (show Wc _ _ _ _ _ _ from ?_) a hst3
    clear hst3 a
    refine c_seq ?_
    refine c_seq ?_
    refine c_region ?_
    refine s_y (y_move rfl) rfl rfl ?_
    refine s_y (y_move rfl) rfl rfl ?_
    refine s_y (y_len Tryd.underlying25 rfl) rfl rfl ?_
    refine s_y (y_lss rfl rfl rfl) rfl rfl ?_
    refine s_nil ?_
    refine n_then ?_
    refine c_cond rfl ?_ ?_
    · intro h5
      replace h5 : (↑i : Int) < ↑es.length := of_decide_eq_true h5
      refine c_skip ?_
      refine n_then ?_
      refine c_seq ?_
      refine c_block ?_
      refine c_seq ?_
      refine dr_begin (fun W => Row W A g o es.length 34 (ents es) ∧ Row W B h q es.length 34 (ents es)) 9 (by kernel_rfl) ?_
      intro w6 f7
      replace hr := hr.fr0 f7
      replace hq := hq.fr0 f7
      have hF8 := hF4.then0 f7
      refine dr_y 0 rfl (fun _ => y_move rfl) rfl (by kernel_rfl) (qp_then (qp_inb (qp_then (qp_then (qp_inb (qp_then qp_body)))))) (fun _ => ⟨hr, hq⟩) ?_
      refine dr_y 1 rfl (fun _ => y_move rfl) rfl (by kernel_rfl) (qp_then (qp_inb (qp_then (qp_then (qp_inb (qp_then qp_body)))))) (fun _ => ⟨hr, hq⟩) ?_
      refine dr_y 2 rfl (fun _ => y_index (r := o + i * 34) Tryd.underlying25 T.ty28 rfl rfl (hr.addr (j := i * 34) (by rw [ents_len]; omega)) (by omega) (by omega) (by omega)) rfl (by kernel_rfl) (qp_then (qp_inb (qp_then (qp_then (qp_inb (qp_then qp_body)))))) (fun _ => ⟨hr, hq⟩) ?_
      refine dr_l 3 rfl (fun _ hS => by obtain ⟨q0, q1⟩ := hS; exact y_ldRA (xs := ((es.getD i Ent.zero).cells)) (j := i * 34) T.ty28 rfl q0 (by first | rfl | omega) (Ent.len _) (ents_w es i (by omega))) rfl (by kernel_rfl) (qp_then (qp_inb (qp_then (qp_then (qp_inb (qp_then qp_body)))))) ⟨hr, hq⟩ ?_
      refine dr_y 4 rfl (fun _ => y_move rfl) rfl (by kernel_rfl) (qp_then (qp_inb (qp_then (qp_then (qp_inb (qp_then qp_body)))))) (fun _ => ⟨hr, hq⟩) ?_
      refine dr_y 5 rfl (fun _ => y_move rfl) rfl (by kernel_rfl) (qp_then (qp_inb (qp_then (qp_then (qp_inb (qp_then qp_body)))))) (fun _ => ⟨hr, hq⟩) ?_
      refine dr_y 6 rfl (fun _ => y_index (r := q + i * 34) Tryd.underlying25 T.ty28 rfl rfl (hq.addr (j := i * 34) (by rw [ents_len]; omega)) (by omega) (by omega) (by omega)) rfl (by kernel_rfl) (qp_then (qp_inb (qp_then (qp_then (qp_inb (qp_then qp_body)))))) (fun _ => ⟨hr, hq⟩) ?_
      refine dr_l 7 rfl (fun _ hS => by obtain ⟨q0, q1⟩ := hS; exact y_ldRA (xs := ((es.getD i Ent.zero).cells)) (j := i * 34) T.ty28 rfl q1 (by first | rfl | omega) (Ent.len _) (ents_w es i (by omega))) rfl (by kernel_rfl) (qp_then (qp_inb (qp_then (qp_then (qp_inb (qp_then qp_body)))))) ⟨hr, hq⟩ ?_
      refine dr_y 8 rfl (fun _ => y_neA (r := false) (eq28 (es.getD i Ent.zero) (es.getD i Ent.zero)) rfl rfl (by rw [decide_eq_true rfl]; rfl)) rfl (by kernel_rfl) (qp_then (qp_inb (qp_then (qp_then (qp_inb (qp_then qp_body)))))) (fun _ => ⟨hr, hq⟩) ?_
      refine dr_done (by kernel_rfl) ?_
      refine n_then ?_
      refine c_false rfl ?_
      refine c_skip ?_
      refine n_inb ?_
      refine n_then ?_
      refine c_region ?_
      refine s_y (y_move rfl) rfl rfl ?_
      refine s_y (y_add rfl rfl (wrI (by omega) (by omega))) rfl rfl ?_
      refine s_y (y_assign rfl) rfl rfl ?_
      refine s_nil ?_
      exact fun a ha => ⟨_, by omega, i + 1, rfl, ha.cut ⟨rfl, rfl, (iv (by omega)), trivial⟩, hF8, hr, hq, by omega⟩
    · intro h9
      replace h9 : ¬ ((↑i : Int) < ↑es.length) := of_decide_eq_false h9
      refine c_exit ?_
      refine x_then ?_
      refine x_then ?_
      refine x_hit ?_
      refine n_then ?_
      refine c_seq ?_
      refine c_region ?_
      refine s_y (y_assign rfl) rfl rfl ?_
      refine s_nil ?_
      refine n_then ?_
      refine c_ret ?_
      refine fin1 (by simp) rfl rfl ?_
      exact ⟨rfl, hF4⟩

end Go.Proofs.YtojbephcahnbbaaDoor
