/- Messages read: a host. No condition. -/
import Derived.Test.YtcnepgnfecoeoaaDoorD
import Derived.Test.YtcnepgnfecoeoaaDoorGMem4
import Derived.Test.YtcnepgnfecoeoaaDoorET
import Derived.Test.YtcnepgnfecoeoaaDoorProg
set_option linter.unusedVariables false
set_option linter.unusedSimpArgs false
namespace Go.Proofs.YtcnepgnfecoeoaaDoor
open Go Go.Proofs.GP Go.Proofs.Tryd
set_option maxHeartbeats 8000000 in
set_option maxRecDepth 100000 in
theorem host_err (r at_ gE : Nat) (A : Option Addr) (g o c : Nat) (b : By) (w : World) (hb : b.length ≤ 9223372036854775807) (hr : Blk w r 99 [.slice A b.length c, .int .i64 ↑at_, .iface 136 (.pointer (some ⟨gE, 0, none⟩))]) :
    Calls Tryd.prog 62 #[.pointer (some ⟨r, 0, none⟩)] w fun e w' => ∃ h' : Hs, e = .returned (.agg [.int .u8 ↑h'.ad.a.toNat, .int .u8 ↑h'.ad.b.toNat, .int .u8 ↑h'.ad.c.toNat, .int .u8 ↑h'.ad.d.toNat, .string ⟨h'.n.toArray⟩].toArray) ∧ Fr [] w w' := by
  refine c_start (args := [.pointer (some ⟨r, 0, none⟩)]) Tryd.func62 rfl rfl rfl ?_
  try simp only [enum, Nat.zero_add, Nat.reduceAdd]
  have hF0 := Fr.refl [] w
  have lt_hr := hr.lt
  refine c_seq ?_
  refine c_region ?_
  refine s_d (d_alloc (cs := [.int .u8 0, .int .u8 0, .int .u8 0, .int .u8 0, .string ⟨[].toArray⟩]) T.zero27 rfl) rfl rfl ?_
  rintro _ w2 ⟨g1, rfl, hg5, b3, f4⟩
  have ne6 : r ≠ g1 := Nat.ne_of_lt (Nat.lt_of_lt_of_le hr.lt hg5)
  have nw7 := Nat.le_trans hF0.size hg5
  replace hr := hr.fr0 f4
  have hF8 := hF0.then0 f4
  refine s_nil ?_
  refine n_then ?_
  refine c_seq ?_
  refine c_region ?_
  refine s_y (y_move rfl) rfl rfl ?_
  refine s_y (y_nilCheck rfl) rfl rfl ?_
  refine s_y (y_field rfl T.fld99_1 rfl) rfl rfl ?_
  refine s_y (y_ldB T.ty3 rfl hr rfl) rfl rfl ?_
  refine s_y (y_assign rfl) rfl rfl ?_
  refine s_nil ?_
  refine n_then ?_
  refine c_seq ?_
  refine c_seq ?_
  refine c_region ?_
  refine s_y (y_move rfl) rfl rfl ?_
  refine s_d (d_callR T.ent60 (vs := [.pointer (some ⟨r, 0, none⟩)]) rfl (one_err r at_ gE A g o c b _ hb hr) (by rintro e w' ⟨rfl, -⟩; exact ⟨_, rfl⟩)) rfl rfl ?_
  rintro v11 w9 ⟨hv12, f10⟩
  obtain rfl := ret_inj hv12
  replace hr := hr.fr0 f10
  replace b3 := b3.fr0 f10
  have hF13 := hF8.then0 f10
  refine s_nil ?_
  refine n_then ?_
  refine c_block ?_
  refine c_seq ?_
  refine c_block ?_
  refine c_block ?_
  refine c_seq ?_
  refine c_block ?_
  refine c_seq ?_
  refine c_block ?_
  refine c_seq ?_
  refine c_seq ?_
  refine c_seq ?_
  refine c_region ?_
  refine s_y (y_eql (r := false) rfl rfl rfl) rfl rfl ?_
  refine s_y (y_assign rfl) rfl rfl ?_
  refine s_nil ?_
  refine n_then ?_
  refine c_false rfl ?_
  refine c_skip ?_
  refine n_then ?_
  refine c_seq ?_
  refine c_seq ?_
  refine c_region ?_
  refine s_y (y_eql (r := false) rfl rfl rfl) rfl rfl ?_
  refine s_y (y_assign rfl) rfl rfl ?_
  refine s_nil ?_
  refine n_then ?_
  refine c_false rfl ?_
  refine c_skip ?_
  refine n_then ?_
  refine c_seq ?_
  refine c_region ?_
  refine s_y (y_eql (r := false) rfl rfl rfl) rfl rfl ?_
  refine s_y (y_assign rfl) rfl rfl ?_
  refine s_nil ?_
  refine n_then ?_
  refine c_false rfl ?_
  refine c_skip ?_
  refine n_then ?_
  refine c_exit ?_
  refine x_miss rfl ?_
  refine x_then ?_
  refine x_miss rfl ?_
  refine x_then ?_
  refine x_miss rfl ?_
  refine x_hit ?_
  refine n_then ?_
  refine c_seq ?_
  refine c_region ?_
  refine s_y (y_move rfl) rfl rfl ?_
  refine s_y (y_move rfl) rfl rfl ?_
  refine s_y (y_iface rfl Tryd.underlying39 rfl) rfl rfl ?_
  refine s_d (d_callR T.ent61 (vs := [.pointer (some ⟨r, 0, none⟩), .int .i64 ↑at_, .iface 39 (.int .i64 71)]) rfl (fail_no r at_ gE ↑at_ _ A b.length c _ hr) (by rintro e w' ⟨rfl, -⟩; exact ⟨_, rfl⟩)) rfl rfl ?_
  rintro v16 w14 ⟨hv17, f15⟩
  obtain rfl := ret_inj hv17
  replace hr := hr.fr0 f15
  replace b3 := b3.fr0 f15
  have hF18 := hF13.then0 f15
  refine s_nil ?_
  refine n_then ?_
  refine c_exit ?_
  refine x_hit ?_
  refine n_then ?_
  refine c_seq ?_
  refine c_region ?_
  refine s_y (y_build (vs := []) rfl (T.bz27 _)) rfl rfl ?_
  refine s_d (d_store (cs := [.int .u8 0, .int .u8 0, .int .u8 0, .int .u8 0, .string ⟨[].toArray⟩]) (l' := [.int .u8 0, .int .u8 0, .int .u8 0, .int .u8 0, .string ⟨[].toArray⟩]) T.ty27 rfl rfl b3 rfl rfl (ones rfl) (Nat.le_of_ble_eq_true rfl) rfl) rfl rfl ?_
  rintro _ w19 ⟨rfl, b20, f21⟩
  replace hr := hr.fr1 f21 ne6
  clear b3
  have hF22 := hF18.thenNew f21 nw7
  refine s_nil ?_
  refine n_then ?_
  refine c_ret ?_
  refine fin1 (by simp) rfl (rv_A (xs := [.int .u8 0, .int .u8 0, .int .u8 0, .int .u8 0, .string ⟨[].toArray⟩]) T.ty27 rfl b20 rfl rfl) ?_
  exact ⟨(⟨Ad.zero, []⟩ : Hs), rfl, hF22⟩

set_option maxHeartbeats 8000000 in
set_option maxRecDepth 100000 in
theorem host_ok (r at_ : Nat) (A : Option Addr) (g o c : Nat) (b : By) (w : World) (hat : at_ ≤ b.length) (hb : b.length ≤ 9223372036854775807) (hc : b.length ≤ c) (hrg : b.map bv = [] ∨ g ≠ r) (hr : Blk w r 99 [.slice A b.length c, .int .i64 ↑at_, .nilIface]) (hw : Row w A g o b.length 1 (b.map bv)) (hG : Gl w) :
    Calls Tryd.prog 62 #[.pointer (some ⟨r, 0, none⟩)] w fun e w' => ∃ h' : Hs, e = .returned (.agg [.int .u8 ↑h'.ad.a.toNat, .int .u8 ↑h'.ad.b.toNat, .int .u8 ↑h'.ad.c.toNat, .int .u8 ↑h'.ad.d.toNat, .string ⟨h'.n.toArray⟩].toArray) ∧ Fr [r] w w' ∧ (((placeL b at_).2.2 = .no ∧ h' = (placeL b at_).1 ∧ Blk w' r 99 [.slice A b.length c, .int .i64 (↑(placeL b at_).2.1), .nilIface]) ∨ (∃ (at' gE : Nat), w.heap.size ≤ gE ∧ Blk w' r 99 [.slice A b.length c, .int .i64 ↑at', .iface 136 (.pointer (some ⟨gE, 0, none⟩))] ∧ FaultAt w' 138 136 39 gE (placeL b at_).2.2)) := by
  have hG4 := hG.lt
  refine c_start (args := [.pointer (some ⟨r, 0, none⟩)]) Tryd.func62 rfl rfl rfl ?_
  try simp only [enum, Nat.zero_add, Nat.reduceAdd]
  have hF0 := Fr.refl [r] w
  have lt_hr := hr.lt
  have lt_hw := hw.lt'
  refine c_seq ?_
  refine c_region ?_
  refine s_d (d_alloc (cs := [.int .u8 0, .int .u8 0, .int .u8 0, .int .u8 0, .string ⟨[].toArray⟩]) T.zero27 rfl) rfl rfl ?_
  rintro _ w2 ⟨g1, rfl, hg5, b3, f4⟩
  have ne6 : r ≠ g1 := Nat.ne_of_lt (Nat.lt_of_lt_of_le hr.lt hg5)
  have ne7 := row_ne_new hw hg5
  have nw8 := Nat.le_trans hF0.size hg5
  replace hG := hG.fr0 f4
  replace hr := hr.fr0 f4
  replace hw := hw.fr0 f4
  have hF9 := hF0.then0 f4
  refine s_nil ?_
  refine n_then ?_
  refine c_seq ?_
  refine c_region ?_
  refine s_y (y_move rfl) rfl rfl ?_
  refine s_y (y_nilCheck rfl) rfl rfl ?_
  refine s_y (y_field rfl T.fld99_1 rfl) rfl rfl ?_
  refine s_y (y_ldB T.ty3 rfl hr rfl) rfl rfl ?_
  refine s_y (y_assign rfl) rfl rfl ?_
  refine s_nil ?_
  refine n_then ?_
  refine c_seq ?_
  refine c_seq ?_
  refine c_region ?_
  refine s_y (y_move rfl) rfl rfl ?_
  refine s_d (d_callR T.ent60 (vs := [.pointer (some ⟨r, 0, none⟩)]) rfl (one_ok r at_ A g o c b _ (by omega) hb hc hrg hr hw) (by rintro e w' ⟨_, rfl, -⟩; exact ⟨_, rfl⟩)) rfl rfl ?_
  rintro v20 w18 ⟨x17, hv21, f19, ha22⟩
  obtain rfl := ret_inj hv21
  rcases ha22 with ⟨rfl, hlt10, hr11⟩ | ⟨rfl, hge12, gE13, hg14, hr15, hfa16⟩
  ·
    replace hG := hG.fr f19 (by simp only [List.mem_cons, List.not_mem_nil, or_false, not_or]; exact hG.ne_slice hr)
    clear hr
    replace hw := hw.fr1 f19 hrg
    replace b3 := b3.fr1 f19 ne6.symm
    have hF23 := hF9.thenIn f19 (by simp)
    refine s_nil ?_
    refine n_then ?_
    refine c_block ?_
    refine c_seq ?_
    refine c_block ?_
    refine c_block ?_
    refine c_seq ?_
    refine c_block ?_
    refine c_seq ?_
    refine c_block ?_
    refine c_seq ?_
    refine c_seq ?_
    refine c_seq ?_
    refine c_region ?_
    refine s_y (y_eql rfl rfl rfl) rfl rfl ?_
    refine s_y (y_assign rfl) rfl rfl ?_
    refine s_nil ?_
    refine n_then ?_
    refine c_cond rfl ?_ ?_
    · intro h24
      replace h24 : ((↑(at8 b at_)) : Int) = 1 := of_decide_eq_true h24
      refine c_exit ?_
      refine x_then ?_
      refine x_then ?_
      refine x_hit ?_
      refine n_then ?_
      refine c_seq ?_
      refine c_seq ?_
      refine c_region ?_
      refine s_y (y_move rfl) rfl rfl ?_
      refine s_d (d_callR T.ent63 (vs := [.pointer (some ⟨r, 0, none⟩), .int .i64 4]) rfl (take_ok r (at_ + 1) 4 A g o c b _ (by omega) (by omega) hb hc hrg hr11 hw) (by rintro e w' ⟨_, _, rfl, -⟩; exact ⟨_, rfl⟩)) rfl rfl ?_
      rintro v40 w38 ⟨A25, c26, hv41, f39, ha42⟩
      obtain rfl := ret_inj hv41
      rcases ha42 with ⟨hlt27, rw28, hr29⟩ | ⟨hlt30, gN31, gE32, rfl, hgN33, hgE34, hbN35, hr36, hfa37⟩
      ·
        replace hG := hG.fr f39 (by simp only [List.mem_cons, List.not_mem_nil, or_false, not_or]; exact hG.ne_slice hr11)
        replace hw := hw.fr1 f39 hrg
        replace b3 := b3.fr1 f39 ne6.symm
        clear hr11
        have hF43 := hF23.thenIn f39 (by simp)
        try have hgl44 : g < w.heap.size := lt_hw.resolve_left (bv_ne (by omega))
        refine s_y (y_assign rfl) rfl rfl ?_
        refine s_nil ?_
        refine n_then ?_
        refine c_seq ?_
        refine dr_begin (fun W => Row W A g o b.length 1 (b.map bv) ∧ Blk W g1 27 [.int .u8 0, .int .u8 0, .int .u8 0, .int .u8 0, .string ⟨[].toArray⟩] ∧ Blk W r 99 [.slice A b.length c, .int .i64 (↑((at_ + 1) + 4)), .nilIface] ∧ Row W A25 g (o + (at_ + 1)) 4 1 (((b.drop (at_ + 1)).take 4).map bv)) 14 (by kernel_rfl) ?_
        intro w45 f46
        replace hG := hG.fr0 f46
        replace hw := hw.fr0 f46
        replace b3 := b3.fr0 f46
        replace hr29 := hr29.fr0 f46
        replace rw28 := rw28.fr0 f46
        have hF47 := hF43.then0 f46
        refine dr_y 0 rfl (fun _ => y_move rfl) rfl (by kernel_rfl) (qp_then (qp_then (qp_inb (qp_then (qp_inb (qp_inb (qp_then (qp_inb (qp_then qp_body))))))))) (fun _ => ⟨hw, b3, hr29, rw28⟩) ?_
        refine dr_y 1 rfl (fun _ => y_index (r := (o + (at_ + 1)) + 0) Tryd.underlying22 T.ty5 rfl rfl (rw28.addr (j := 0) (by simp; omega)) (by omega) (by omega) (by omega)) rfl (by kernel_rfl) (qp_then (qp_then (qp_inb (qp_then (qp_inb (qp_inb (qp_then (qp_inb (qp_then qp_body))))))))) (fun _ => ⟨hw, b3, hr29, rw28⟩) ?_
        refine dr_l 2 rfl (fun _ hS => by obtain ⟨q0, q1, q2, q3⟩ := hS; exact y_ldR (v := .int .u8 (↑(b.getD ((at_ + 1) + 0) 0).toNat)) (j := 0) T.ty5 rfl q3 (by first | rfl | omega) (sub_at b (at_ + 1) 4 0 (by omega) (by omega))) rfl (by kernel_rfl) (qp_then (qp_then (qp_inb (qp_then (qp_inb (qp_inb (qp_then (qp_inb (qp_then qp_body))))))))) ⟨hw, b3, hr29, rw28⟩ ?_
        refine dr_y 3 rfl (fun _ => y_move rfl) rfl (by kernel_rfl) (qp_then (qp_then (qp_inb (qp_then (qp_inb (qp_inb (qp_then (qp_inb (qp_then qp_body))))))))) (fun _ => ⟨hw, b3, hr29, rw28⟩) ?_
        refine dr_y 4 rfl (fun _ => y_index (r := (o + (at_ + 1)) + 1) Tryd.underlying22 T.ty5 rfl rfl (rw28.addr (j := 1) (by simp; omega)) (by omega) (by omega) (by omega)) rfl (by kernel_rfl) (qp_then (qp_then (qp_inb (qp_then (qp_inb (qp_inb (qp_then (qp_inb (qp_then qp_body))))))))) (fun _ => ⟨hw, b3, hr29, rw28⟩) ?_
        refine dr_l 5 rfl (fun _ hS => by obtain ⟨q0, q1, q2, q3⟩ := hS; exact y_ldR (v := .int .u8 (↑(b.getD ((at_ + 1) + 1) 0).toNat)) (j := 1) T.ty5 rfl q3 (by first | rfl | omega) (sub_at b (at_ + 1) 4 1 (by omega) (by omega))) rfl (by kernel_rfl) (qp_then (qp_then (qp_inb (qp_then (qp_inb (qp_inb (qp_then (qp_inb (qp_then qp_body))))))))) ⟨hw, b3, hr29, rw28⟩ ?_
        refine dr_y 6 rfl (fun _ => y_move rfl) rfl (by kernel_rfl) (qp_then (qp_then (qp_inb (qp_then (qp_inb (qp_inb (qp_then (qp_inb (qp_then qp_body))))))))) (fun _ => ⟨hw, b3, hr29, rw28⟩) ?_
        refine dr_y 7 rfl (fun _ => y_index (r := (o + (at_ + 1)) + 2) Tryd.underlying22 T.ty5 rfl rfl (rw28.addr (j := 2) (by simp; omega)) (by omega) (by omega) (by omega)) rfl (by kernel_rfl) (qp_then (qp_then (qp_inb (qp_then (qp_inb (qp_inb (qp_then (qp_inb (qp_then qp_body))))))))) (fun _ => ⟨hw, b3, hr29, rw28⟩) ?_
        refine dr_l 8 rfl (fun _ hS => by obtain ⟨q0, q1, q2, q3⟩ := hS; exact y_ldR (v := .int .u8 (↑(b.getD ((at_ + 1) + 2) 0).toNat)) (j := 2) T.ty5 rfl q3 (by first | rfl | omega) (sub_at b (at_ + 1) 4 2 (by omega) (by omega))) rfl (by kernel_rfl) (qp_then (qp_then (qp_inb (qp_then (qp_inb (qp_inb (qp_then (qp_inb (qp_then qp_body))))))))) ⟨hw, b3, hr29, rw28⟩ ?_
        refine dr_y 9 rfl (fun _ => y_move rfl) rfl (by kernel_rfl) (qp_then (qp_then (qp_inb (qp_then (qp_inb (qp_inb (qp_then (qp_inb (qp_then qp_body))))))))) (fun _ => ⟨hw, b3, hr29, rw28⟩) ?_
        refine dr_y 10 rfl (fun _ => y_index (r := (o + (at_ + 1)) + 3) Tryd.underlying22 T.ty5 rfl rfl (rw28.addr (j := 3) (by simp; omega)) (by omega) (by omega) (by omega)) rfl (by kernel_rfl) (qp_then (qp_then (qp_inb (qp_then (qp_inb (qp_inb (qp_then (qp_inb (qp_then qp_body))))))))) (fun _ => ⟨hw, b3, hr29, rw28⟩) ?_
        refine dr_l 11 rfl (fun _ hS => by obtain ⟨q0, q1, q2, q3⟩ := hS; exact y_ldR (v := .int .u8 (↑(b.getD ((at_ + 1) + 3) 0).toNat)) (j := 3) T.ty5 rfl q3 (by first | rfl | omega) (sub_at b (at_ + 1) 4 3 (by omega) (by omega))) rfl (by kernel_rfl) (qp_then (qp_then (qp_inb (qp_then (qp_inb (qp_inb (qp_then (qp_inb (qp_then qp_body))))))))) ⟨hw, b3, hr29, rw28⟩ ?_
        refine dr_y 12 rfl (fun _ => y_build (vs := [(0, .int .u8 (↑(b.getD ((at_ + 1) + 0) 0).toNat)), (1, .int .u8 (↑(b.getD ((at_ + 1) + 1) 0).toNat)), (2, .int .u8 (↑(b.getD ((at_ + 1) + 2) 0).toNat)), (3, .int .u8 (↑(b.getD ((at_ + 1) + 3) 0).toNat))]) rfl (by apply T.lit3)) rfl (by kernel_rfl) (qp_then (qp_then (qp_inb (qp_then (qp_inb (qp_inb (qp_then (qp_inb (qp_then qp_body))))))))) (fun _ => ⟨hw, b3, hr29, rw28⟩) ?_
        refine dr_y 13 rfl (fun _ => y_build (vs := [(0, .agg [.int .u8 (↑(b.getD ((at_ + 1) + 0) 0).toNat), .int .u8 (↑(b.getD ((at_ + 1) + 1) 0).toNat), .int .u8 (↑(b.getD ((at_ + 1) + 2) 0).toNat), .int .u8 (↑(b.getD ((at_ + 1) + 3) 0).toNat)].toArray)]) rfl (by apply T.lit4)) rfl (by kernel_rfl) (qp_then (qp_then (qp_inb (qp_then (qp_inb (qp_inb (qp_then (qp_inb (qp_then qp_body))))))))) (fun _ => ⟨hw, b3, hr29, rw28⟩) ?_
        refine dr_1 (i := 14) (by kernel_rfl) ?_
        refine rd_d rfl (d_store (cs := [.int .u8 (↑(b.getD ((at_ + 1) + 0) 0).toNat), .int .u8 (↑(b.getD ((at_ + 1) + 1) 0).toNat), .int .u8 (↑(b.getD ((at_ + 1) + 2) 0).toNat), .int .u8 (↑(b.getD ((at_ + 1) + 3) 0).toNat), .string ⟨[].toArray⟩]) (l' := [.int .u8 (↑(b.getD ((at_ + 1) + 0) 0).toNat), .int .u8 (↑(b.getD ((at_ + 1) + 1) 0).toNat), .int .u8 (↑(b.getD ((at_ + 1) + 2) 0).toNat), .int .u8 (↑(b.getD ((at_ + 1) + 3) 0).toNat), .string ⟨[].toArray⟩]) T.ty27 rfl rfl b3 rfl rfl (ones rfl) (Nat.le_of_ble_eq_true rfl) rfl) rfl rfl ?_
        rintro _ w48 ⟨rfl, b49, f50⟩
        replace hG := hG.fr f50 (by simp only [List.mem_cons, List.not_mem_nil, or_false, not_or]; exact by omega)
        replace hw := hw.fr1 f50 ne7
        replace hr29 := hr29.fr1 f50 ne6
        replace rw28 := rw28.fr1 f50 (.inr (by omega))
        clear b3
        have hF51 := hF47.thenNew f50 nw8
        refine ⟨fun h => (Bool.false_ne_true (h.symm.trans (by kernel_rfl))).elim, ?_⟩
        refine dr_done (by kernel_rfl) ?_
        refine n_then ?_
        refine c_ret ?_
        refine r_then ?_
        refine r_inb ?_
        refine r_then ?_
        refine r_inb ?_
        refine r_inb ?_
        refine r_then ?_
        refine r_inb ?_
        refine r_then ?_
        refine fin1 (by simp) rfl (rv_A (xs := [.int .u8 (↑(b.getD ((at_ + 1) + 0) 0).toNat), .int .u8 (↑(b.getD ((at_ + 1) + 1) 0).toNat), .int .u8 (↑(b.getD ((at_ + 1) + 2) 0).toNat), .int .u8 (↑(b.getD ((at_ + 1) + 3) 0).toNat), .string ⟨[].toArray⟩]) T.ty27 rfl b49 rfl rfl) ?_
        have hp := place_1 b at_ (by omega) (by omega) (by omega)
        exact ⟨(⟨(⟨b.getD ((at_ + 1) + 0) 0, b.getD ((at_ + 1) + 1) 0, b.getD ((at_ + 1) + 2) 0, b.getD ((at_ + 1) + 3) 0⟩ : Ad), []⟩ : Hs), rfl, hF51, .inl ⟨by rw [hp], by rw [hp], by rw [hp]; exact hr29⟩⟩
      ·
        have ne52 := row_ne_new hw hgN33
        have ne53 : g1 ≠ gN31 := Nat.ne_of_lt (Nat.lt_of_lt_of_le b3.lt hgN33)
        have ne54 : r ≠ gN31 := Nat.ne_of_lt (Nat.lt_of_lt_of_le hr11.lt hgN33)
        have nw55 := Nat.le_trans hF23.size hgN33
        have ne56 := row_ne_new hw hgE34
        have ne57 : g1 ≠ gE32 := Nat.ne_of_lt (Nat.lt_of_lt_of_le b3.lt hgE34)
        have ne58 : r ≠ gE32 := Nat.ne_of_lt (Nat.lt_of_lt_of_le hr11.lt hgE34)
        have nw59 := Nat.le_trans hF23.size hgE34
        replace hG := hG.fr f39 (by simp only [List.mem_cons, List.not_mem_nil, or_false, not_or]; exact hG.ne_slice hr11)
        replace hw := hw.fr1 f39 hrg
        replace b3 := b3.fr1 f39 ne6.symm
        clear hr11
        have hF60 := hF23.thenIn f39 (by simp)
        have rz61 := row_z hbN35
        refine s_y (y_assign rfl) rfl rfl ?_
        refine s_nil ?_
        refine n_then ?_
        refine c_seq ?_
        refine dr_begin (fun W => Row W A g o b.length 1 (b.map bv) ∧ Blk W g1 27 [.int .u8 0, .int .u8 0, .int .u8 0, .int .u8 0, .string ⟨[].toArray⟩] ∧ Blk W r 99 [.slice A b.length c, .int .i64 (↑(at_ + 1)), .iface 136 (.pointer (some ⟨gE32, 0, none⟩))] ∧ Blk W gN31 5 (List.replicate 4 (.int .u8 0)) ∧ Row W (some ⟨gN31, 0, none⟩) gN31 0 4 1 ((List.replicate 4 (0 : UInt8)).map bv)) 14 (by kernel_rfl) ?_
        intro w62 f63
        replace hG := hG.fr0 f63
        replace hfa37 := hfa37.fr0 f63
        replace hw := hw.fr0 f63
        replace b3 := b3.fr0 f63
        replace hr36 := hr36.fr0 f63
        replace hbN35 := hbN35.fr0 f63
        replace rz61 := rz61.fr0 f63
        have hF64 := hF60.then0 f63
        refine dr_y 0 rfl (fun _ => y_move rfl) rfl (by kernel_rfl) (qp_then (qp_then (qp_inb (qp_then (qp_inb (qp_inb (qp_then (qp_inb (qp_then qp_body))))))))) (fun _ => ⟨hw, b3, hr36, hbN35, rz61⟩) ?_
        refine dr_y 1 rfl (fun _ => y_index (r := 0) Tryd.underlying22 T.ty5 rfl rfl rfl (by omega) (by omega) (by omega)) rfl (by kernel_rfl) (qp_then (qp_then (qp_inb (qp_then (qp_inb (qp_inb (qp_then (qp_inb (qp_then qp_body))))))))) (fun _ => ⟨hw, b3, hr36, hbN35, rz61⟩) ?_
        refine dr_l 2 rfl (fun _ hS => by obtain ⟨q0, q1, q2, q3, q4⟩ := hS; exact y_ldB (v := .int .u8 (↑(0 : UInt8).toNat)) T.ty5 rfl q3 rfl) rfl (by kernel_rfl) (qp_then (qp_then (qp_inb (qp_then (qp_inb (qp_inb (qp_then (qp_inb (qp_then qp_body))))))))) ⟨hw, b3, hr36, hbN35, rz61⟩ ?_
        refine dr_y 3 rfl (fun _ => y_move rfl) rfl (by kernel_rfl) (qp_then (qp_then (qp_inb (qp_then (qp_inb (qp_inb (qp_then (qp_inb (qp_then qp_body))))))))) (fun _ => ⟨hw, b3, hr36, hbN35, rz61⟩) ?_
        refine dr_y 4 rfl (fun _ => y_index (r := 1) Tryd.underlying22 T.ty5 rfl rfl rfl (by omega) (by omega) (by omega)) rfl (by kernel_rfl) (qp_then (qp_then (qp_inb (qp_then (qp_inb (qp_inb (qp_then (qp_inb (qp_then qp_body))))))))) (fun _ => ⟨hw, b3, hr36, hbN35, rz61⟩) ?_
        refine dr_l 5 rfl (fun _ hS => by obtain ⟨q0, q1, q2, q3, q4⟩ := hS; exact y_ldB (v := .int .u8 (↑(0 : UInt8).toNat)) T.ty5 rfl q3 rfl) rfl (by kernel_rfl) (qp_then (qp_then (qp_inb (qp_then (qp_inb (qp_inb (qp_then (qp_inb (qp_then qp_body))))))))) ⟨hw, b3, hr36, hbN35, rz61⟩ ?_
        refine dr_y 6 rfl (fun _ => y_move rfl) rfl (by kernel_rfl) (qp_then (qp_then (qp_inb (qp_then (qp_inb (qp_inb (qp_then (qp_inb (qp_then qp_body))))))))) (fun _ => ⟨hw, b3, hr36, hbN35, rz61⟩) ?_
        refine dr_y 7 rfl (fun _ => y_index (r := 2) Tryd.underlying22 T.ty5 rfl rfl rfl (by omega) (by omega) (by omega)) rfl (by kernel_rfl) (qp_then (qp_then (qp_inb (qp_then (qp_inb (qp_inb (qp_then (qp_inb (qp_then qp_body))))))))) (fun _ => ⟨hw, b3, hr36, hbN35, rz61⟩) ?_
        refine dr_l 8 rfl (fun _ hS => by obtain ⟨q0, q1, q2, q3, q4⟩ := hS; exact y_ldB (v := .int .u8 (↑(0 : UInt8).toNat)) T.ty5 rfl q3 rfl) rfl (by kernel_rfl) (qp_then (qp_then (qp_inb (qp_then (qp_inb (qp_inb (qp_then (qp_inb (qp_then qp_body))))))))) ⟨hw, b3, hr36, hbN35, rz61⟩ ?_
        refine dr_y 9 rfl (fun _ => y_move rfl) rfl (by kernel_rfl) (qp_then (qp_then (qp_inb (qp_then (qp_inb (qp_inb (qp_then (qp_inb (qp_then qp_body))))))))) (fun _ => ⟨hw, b3, hr36, hbN35, rz61⟩) ?_
        refine dr_y 10 rfl (fun _ => y_index (r := 3) Tryd.underlying22 T.ty5 rfl rfl rfl (by omega) (by omega) (by omega)) rfl (by kernel_rfl) (qp_then (qp_then (qp_inb (qp_then (qp_inb (qp_inb (qp_then (qp_inb (qp_then qp_body))))))))) (fun _ => ⟨hw, b3, hr36, hbN35, rz61⟩) ?_
        refine dr_l 11 rfl (fun _ hS => by obtain ⟨q0, q1, q2, q3, q4⟩ := hS; exact y_ldB (v := .int .u8 (↑(0 : UInt8).toNat)) T.ty5 rfl q3 rfl) rfl (by kernel_rfl) (qp_then (qp_then (qp_inb (qp_then (qp_inb (qp_inb (qp_then (qp_inb (qp_then qp_body))))))))) ⟨hw, b3, hr36, hbN35, rz61⟩ ?_
        refine dr_y 12 rfl (fun _ => y_build (vs := [(0, .int .u8 (↑(0 : UInt8).toNat)), (1, .int .u8 (↑(0 : UInt8).toNat)), (2, .int .u8 (↑(0 : UInt8).toNat)), (3, .int .u8 (↑(0 : UInt8).toNat))]) rfl (by apply T.lit3)) rfl (by kernel_rfl) (qp_then (qp_then (qp_inb (qp_then (qp_inb (qp_inb (qp_then (qp_inb (qp_then qp_body))))))))) (fun _ => ⟨hw, b3, hr36, hbN35, rz61⟩) ?_
        refine dr_y 13 rfl (fun _ => y_build (vs := [(0, .agg [.int .u8 (↑(0 : UInt8).toNat), .int .u8 (↑(0 : UInt8).toNat), .int .u8 (↑(0 : UInt8).toNat), .int .u8 (↑(0 : UInt8).toNat)].toArray)]) rfl (by apply T.lit4)) rfl (by kernel_rfl) (qp_then (qp_then (qp_inb (qp_then (qp_inb (qp_inb (qp_then (qp_inb (qp_then qp_body))))))))) (fun _ => ⟨hw, b3, hr36, hbN35, rz61⟩) ?_
        refine dr_1 (i := 14) (by kernel_rfl) ?_
        refine rd_d rfl (d_store (cs := [.int .u8 (↑(0 : UInt8).toNat), .int .u8 (↑(0 : UInt8).toNat), .int .u8 (↑(0 : UInt8).toNat), .int .u8 (↑(0 : UInt8).toNat), .string ⟨[].toArray⟩]) (l' := [.int .u8 (↑(0 : UInt8).toNat), .int .u8 (↑(0 : UInt8).toNat), .int .u8 (↑(0 : UInt8).toNat), .int .u8 (↑(0 : UInt8).toNat), .string ⟨[].toArray⟩]) T.ty27 rfl rfl b3 rfl rfl (ones rfl) (Nat.le_of_ble_eq_true rfl) rfl) rfl rfl ?_
        rintro _ w65 ⟨rfl, b66, f67⟩
        replace hG := hG.fr f67 (by simp only [List.mem_cons, List.not_mem_nil, or_false, not_or]; exact by omega)
        replace hfa37 := hfa37.fr f67 (nf_cons (nf_blk b3 (by decide)) (nf_nil _ _))
        replace hw := hw.fr1 f67 ne7
        replace hr36 := hr36.fr1 f67 ne6
        replace hbN35 := hbN35.fr1 f67 ne53.symm
        replace rz61 := rz61.fr1 f67 (.inr ne53.symm)
        clear b3
        have hF68 := hF64.thenNew f67 nw8
        refine ⟨fun h => (Bool.false_ne_true (h.symm.trans (by kernel_rfl))).elim, ?_⟩
        refine dr_done (by kernel_rfl) ?_
        refine n_then ?_
        refine c_ret ?_
        refine r_then ?_
        refine r_inb ?_
        refine r_then ?_
        refine r_inb ?_
        refine r_inb ?_
        refine r_then ?_
        refine r_inb ?_
        refine r_then ?_
        refine fin1 (by simp) rfl (rv_A (xs := [.int .u8 (↑(0 : UInt8).toNat), .int .u8 (↑(0 : UInt8).toNat), .int .u8 (↑(0 : UInt8).toNat), .int .u8 (↑(0 : UInt8).toNat), .string ⟨[].toArray⟩]) T.ty27 rfl b66 rfl rfl) ?_
        have hp : placeL b at_ = (Hs.zero, 0, shortE b) := by first | exact place_s b at_ (by omega) | exact place_1s b at_ (by omega) (by omega) (by omega) | exact place_t b at_ (by omega) (by omega) (by omega)
        exact ⟨(⟨(⟨(0 : UInt8), (0 : UInt8), (0 : UInt8), (0 : UInt8)⟩ : Ad), []⟩ : Hs), rfl, hF68, .inr ⟨_, _, by omega, hr36, by rw [hp]; exact hfa37⟩⟩
    · intro h69
      replace h69 : ¬ (((↑(at8 b at_)) : Int) = 1) := of_decide_eq_false h69
      refine c_skip ?_
      refine n_then ?_
      refine c_seq ?_
      refine c_seq ?_
      refine c_region ?_
      refine s_y (y_eql rfl rfl rfl) rfl rfl ?_
      refine s_y (y_assign rfl) rfl rfl ?_
      refine s_nil ?_
      refine n_then ?_
      refine c_cond rfl ?_ ?_
      · intro h70
        replace h70 : ((↑(at8 b at_)) : Int) = 3 := of_decide_eq_true h70
        refine c_exit ?_
        refine x_then ?_
        refine x_then ?_
        refine x_miss rfl ?_
        refine x_then ?_
        refine x_hit ?_
        refine n_then ?_
        refine c_seq ?_
        refine c_seq ?_
        refine c_region ?_
        refine s_y (y_move rfl) rfl rfl ?_
        refine s_d (d_callR T.ent75 (vs := [.pointer (some ⟨r, 0, none⟩), .int .i64 253]) rfl (text_ok r (at_ + 1) 253 A g o c b _ (by omega) (by omega) hb hc hrg hr11 hw) (by rintro e w' ⟨_, rfl, -⟩; exact ⟨_, rfl⟩)) rfl rfl ?_
        rintro v82 w80 ⟨sv71, hv83, f81, ha84⟩
        obtain rfl := ret_inj hv83
        rcases ha84 with ⟨hno72, rfl, hr73⟩ | ⟨at74, gE75, hg76, hr77, hfa78⟩
        ·
          replace hG := hG.fr f81 (by simp only [List.mem_cons, List.not_mem_nil, or_false, not_or]; exact hG.ne_slice hr11)
          replace hw := hw.fr1 f81 hrg
          replace b3 := b3.fr1 f81 ne6.symm
          clear hr11
          have hF85 := hF23.thenIn f81 (by simp)
          have he79 := text_end b (at_ + 1) 253 hno72
          refine s_y (y_assign rfl) rfl rfl ?_
          refine s_nil ?_
          refine n_then ?_
          refine c_seq ?_
          refine c_seq ?_
          refine c_region ?_
          refine s_y (y_move rfl) rfl rfl ?_
          refine s_y (y_nilCheck rfl) rfl rfl ?_
          refine s_y (y_field rfl T.fld99_2 rfl) rfl rfl ?_
          refine s_y (y_ldB T.ty31 rfl hr73 rfl) rfl rfl ?_
          refine s_y (y_iix Tryd.underlying31 rfl) rfl rfl ?_
          refine s_nil ?_
          refine n_then ?_
          refine c_false rfl ?_
          refine c_skip ?_
          refine n_then ?_
          refine c_seq ?_
          refine c_region ?_
          refine s_y (y_move rfl) rfl rfl ?_
          refine s_d (d_callR T.ent94 (vs := [.string ⟨(textL b (at_ + 1) 253).1.toArray⟩]) rfl (name94_ok (textL b (at_ + 1) 253).1 _ (by omega) hG) (by rintro e w' ⟨_, rfl, -⟩; exact ⟨_, rfl⟩)) rfl rfl ?_
          rintro v94 w92 ⟨v86, hv95, f93, ha96⟩
          obtain rfl := ret_inj hv95
          rcases ha96 with ⟨hno87, rfl⟩ | ⟨gE88, rfl, hg89, hfa90⟩
          ·
            replace hG := hG.fr0 f93
            replace hw := hw.fr0 f93
            replace b3 := b3.fr0 f93
            replace hr73 := hr73.fr0 f93
            have hF97 := hF85.then0 f93
            refine s_y (y_move rfl) rfl rfl ?_
            refine s_y (y_extract rfl rfl) rfl rfl ?_
            refine s_y (y_extract rfl rfl) rfl rfl ?_
            refine s_y (y_assign rfl) rfl rfl ?_
            refine s_y (y_assign rfl) rfl rfl ?_
            refine s_nil ?_
            refine n_then ?_
            refine c_seq ?_
            refine c_seq ?_
            refine c_region ?_
            refine s_y (y_move rfl) rfl rfl ?_
            refine s_y (y_iix Tryd.underlying31 rfl) rfl rfl ?_
            refine s_nil ?_
            refine n_then ?_
            refine c_false rfl ?_
            refine c_skip ?_
            refine n_then ?_
            refine c_seq ?_
            refine c_region ?_
            refine s_y (y_move rfl) rfl rfl ?_
            refine s_y (y_build (vs := [(1, .string ⟨(nameL (textL b (at_ + 1) 253).1).1.toArray⟩)]) rfl (by apply T.lit5)) rfl rfl ?_
            refine s_d (d_store (cs := [.int .u8 0, .int .u8 0, .int .u8 0, .int .u8 0, .string ⟨(nameL (textL b (at_ + 1) 253).1).1.toArray⟩]) (l' := [.int .u8 0, .int .u8 0, .int .u8 0, .int .u8 0, .string ⟨(nameL (textL b (at_ + 1) 253).1).1.toArray⟩]) T.ty27 rfl rfl b3 rfl rfl (ones rfl) (Nat.le_of_ble_eq_true rfl) rfl) rfl rfl ?_
            rintro _ w98 ⟨rfl, b99, f100⟩
            replace hG := hG.fr f100 (by simp only [List.mem_cons, List.not_mem_nil, or_false, not_or]; exact by omega)
            replace hw := hw.fr1 f100 ne7
            replace hr73 := hr73.fr1 f100 ne6
            clear b3
            have hF101 := hF97.thenNew f100 nw8
            refine s_nil ?_
            refine n_then ?_
            refine c_ret ?_
            refine r_then ?_
            refine r_inb ?_
            refine r_inb ?_
            refine r_then ?_
            refine r_inb ?_
            refine r_then ?_
            refine fin1 (by simp) rfl (rv_A (xs := [.int .u8 0, .int .u8 0, .int .u8 0, .int .u8 0, .string ⟨(nameL (textL b (at_ + 1) 253).1).1.toArray⟩]) T.ty27 rfl b99 rfl rfl) ?_
            have hp := place_3 b at_ (by omega) (by omega) hno72 hno87
            exact ⟨(⟨Ad.zero, (nameL (textL b (at_ + 1) 253).1).1⟩ : Hs), rfl, hF101, .inl ⟨by rw [hp], by rw [hp], by rw [hp]; exact hr73⟩⟩
          ·
            have ne102 := row_ne_new hw hg89
            have ne103 : g1 ≠ gE88 := Nat.ne_of_lt (Nat.lt_of_lt_of_le b3.lt hg89)
            have ne104 : r ≠ gE88 := Nat.ne_of_lt (Nat.lt_of_lt_of_le hr73.lt hg89)
            have nw105 := Nat.le_trans hF85.size hg89
            replace hG := hG.fr0 f93
            replace hw := hw.fr0 f93
            replace b3 := b3.fr0 f93
            replace hr73 := hr73.fr0 f93
            have hF106 := hF85.then0 f93
            have hne109 := hfa90.ne
            obtain ⟨x107, y108, hx91⟩ := name_one (textL b (at_ + 1) 253).1 hne109
            rw [hx91] at hfa90
            refine s_y (y_move rfl) rfl rfl ?_
            refine s_y (y_extract rfl rfl) rfl rfl ?_
            refine s_y (y_extract rfl rfl) rfl rfl ?_
            refine s_y (y_assign rfl) rfl rfl ?_
            refine s_y (y_assign rfl) rfl rfl ?_
            refine s_nil ?_
            refine n_then ?_
            refine c_seq ?_
            refine c_seq ?_
            refine c_region ?_
            refine s_y (y_move rfl) rfl rfl ?_
            refine s_y (y_inx Tryd.underlying31 rfl rfl) rfl rfl ?_
            refine s_nil ?_
            refine n_then ?_
            refine c_true rfl ?_
            refine c_region ?_
            refine s_y (y_move rfl) rfl rfl ?_
            refine s_y (y_move rfl) rfl rfl ?_
            refine s_y (y_add rfl rfl (wrI (by omega) (by omega))) rfl rfl ?_
            refine s_y (y_move rfl) rfl rfl ?_
            refine s_d (d_callR T.ent61 (vs := [.pointer (some ⟨r, 0, none⟩), .int .i64 ((↑at_ : Int) + 2), .iface 136 (.pointer (some ⟨gE88, 0, none⟩))]) rfl (fail_2 r (textL b (at_ + 1) 253).2.1 gE88 ((↑at_ : Int) + 2) x107 y108 hostS A b.length c _ hr73 hfa90) (by rintro e w' ⟨_, rfl, -⟩; exact ⟨_, rfl⟩)) rfl rfl ?_
            rintro v116 w114 ⟨gE110, hv117, f115, hg111, hr112, hfa113⟩
            obtain rfl := ret_inj hv117
            have ne118 := row_ne_new hw hg111
            have ne119 : g1 ≠ gE110 := Nat.ne_of_lt (Nat.lt_of_lt_of_le b3.lt hg111)
            have ne120 : r ≠ gE110 := Nat.ne_of_lt (Nat.lt_of_lt_of_le hr73.lt hg111)
            have nw121 := Nat.le_trans hF106.size hg111
            replace hG := hG.fr f115 (by simp only [List.mem_cons, List.not_mem_nil, or_false, not_or]; exact hG.ne_slice hr73)
            replace hfa90 := hfa90.fr f115 (nf_cons (nf_blk hr73 (by decide)) (nf_nil _ _))
            replace hw := hw.fr1 f115 hrg
            replace b3 := b3.fr1 f115 ne6.symm
            clear hr73
            have hF122 := hF106.thenIn f115 (by simp)
            refine s_nil ?_
            refine n_then ?_
            refine c_seq ?_
            refine c_region ?_
            refine s_y (y_move rfl) rfl rfl ?_
            refine s_y (y_build (vs := [(1, .string ⟨(nameL (textL b (at_ + 1) 253).1).1.toArray⟩)]) rfl (by apply T.lit5)) rfl rfl ?_
            refine s_d (d_store (cs := [.int .u8 0, .int .u8 0, .int .u8 0, .int .u8 0, .string ⟨(nameL (textL b (at_ + 1) 253).1).1.toArray⟩]) (l' := [.int .u8 0, .int .u8 0, .int .u8 0, .int .u8 0, .string ⟨(nameL (textL b (at_ + 1) 253).1).1.toArray⟩]) T.ty27 rfl rfl b3 rfl rfl (ones rfl) (Nat.le_of_ble_eq_true rfl) rfl) rfl rfl ?_
            rintro _ w123 ⟨rfl, b124, f125⟩
            replace hG := hG.fr f125 (by simp only [List.mem_cons, List.not_mem_nil, or_false, not_or]; exact by omega)
            replace hfa90 := hfa90.fr f125 (nf_cons (nf_blk b3 (by decide)) (nf_nil _ _))
            replace hfa113 := hfa113.fr f125 (nf_cons (nf_blk b3 (by decide)) (nf_nil _ _))
            replace hw := hw.fr1 f125 ne7
            replace hr112 := hr112.fr1 f125 ne6
            clear b3
            have hF126 := hF122.thenNew f125 nw8
            refine s_nil ?_
            refine n_then ?_
            refine c_ret ?_
            refine r_then ?_
            refine r_inb ?_
            refine r_inb ?_
            refine r_then ?_
            refine r_inb ?_
            refine r_then ?_
            refine fin1 (by simp) rfl (rv_A (xs := [.int .u8 0, .int .u8 0, .int .u8 0, .int .u8 0, .string ⟨(nameL (textL b (at_ + 1) 253).1).1.toArray⟩]) T.ty27 rfl b124 rfl rfl) ?_
            have hp := place_3n b at_ (by omega) (by omega) hno72 hne109
            have hw3 : wrapE (↑at_ + 2) (nameL (textL b (at_ + 1) 253).1).2 = .two fiveS ((↑at_ : Int) + 2) hostS x107 y108 := by rw [hx91]; rfl
            rw [hw3] at hp
            exact ⟨(⟨Ad.zero, (nameL (textL b (at_ + 1) 253).1).1⟩ : Hs), rfl, hF126, .inr ⟨_, _, by omega, hr112, by rw [hp]; exact hfa113⟩⟩
        ·
          have ne127 := row_ne_new hw hg76
          have ne128 : g1 ≠ gE75 := Nat.ne_of_lt (Nat.lt_of_lt_of_le b3.lt hg76)
          have ne129 : r ≠ gE75 := Nat.ne_of_lt (Nat.lt_of_lt_of_le hr11.lt hg76)
          have nw130 := Nat.le_trans hF23.size hg76
          replace hG := hG.fr f81 (by simp only [List.mem_cons, List.not_mem_nil, or_false, not_or]; exact hG.ne_slice hr11)
          replace hw := hw.fr1 f81 hrg
          replace b3 := b3.fr1 f81 ne6.symm
          clear hr11
          have hF131 := hF23.thenIn f81 (by simp)
          refine s_y (y_assign rfl) rfl rfl ?_
          refine s_nil ?_
          refine n_then ?_
          refine c_seq ?_
          refine c_seq ?_
          refine c_region ?_
          refine s_y (y_move rfl) rfl rfl ?_
          refine s_y (y_nilCheck rfl) rfl rfl ?_
          refine s_y (y_field rfl T.fld99_2 rfl) rfl rfl ?_
          refine s_y (y_ldB T.ty31 rfl hr77 rfl) rfl rfl ?_
          refine s_y (y_inx Tryd.underlying31 rfl rfl) rfl rfl ?_
          refine s_nil ?_
          refine n_then ?_
          refine c_true rfl ?_
          refine c_seq ?_
          refine c_region ?_
          refine s_y (y_build (vs := []) rfl (T.bz27 _)) rfl rfl ?_
          refine s_d (d_store (cs := [.int .u8 0, .int .u8 0, .int .u8 0, .int .u8 0, .string ⟨[].toArray⟩]) (l' := [.int .u8 0, .int .u8 0, .int .u8 0, .int .u8 0, .string ⟨[].toArray⟩]) T.ty27 rfl rfl b3 rfl rfl (ones rfl) (Nat.le_of_ble_eq_true rfl) rfl) rfl rfl ?_
          rintro _ w132 ⟨rfl, b133, f134⟩
          replace hG := hG.fr f134 (by simp only [List.mem_cons, List.not_mem_nil, or_false, not_or]; exact by omega)
          replace hfa78 := hfa78.fr f134 (nf_cons (nf_blk b3 (by decide)) (nf_nil _ _))
          replace hw := hw.fr1 f134 ne7
          replace hr77 := hr77.fr1 f134 ne6
          clear b3
          have hF135 := hF131.thenNew f134 nw8
          refine s_nil ?_
          refine n_then ?_
          refine c_ret ?_
          refine r_then ?_
          refine r_then ?_
          refine r_inb ?_
          refine r_inb ?_
          refine r_then ?_
          refine r_inb ?_
          refine r_then ?_
          refine fin1 (by simp) rfl (rv_A (xs := [.int .u8 0, .int .u8 0, .int .u8 0, .int .u8 0, .string ⟨[].toArray⟩]) T.ty27 rfl b133 rfl rfl) ?_
          have hp := place_3e b at_ (by omega) (by omega) hfa78.ne
          exact ⟨(⟨Ad.zero, []⟩ : Hs), rfl, hF135, .inr ⟨_, _, by omega, hr77, by rw [hp]; exact hfa78⟩⟩
      · intro h136
        replace h136 : ¬ (((↑(at8 b at_)) : Int) = 3) := of_decide_eq_false h136
        refine c_skip ?_
        refine n_then ?_
        refine c_seq ?_
        refine c_region ?_
        refine s_y (y_eql rfl rfl rfl) rfl rfl ?_
        refine s_y (y_assign rfl) rfl rfl ?_
        refine s_nil ?_
        refine n_then ?_
        refine c_cond rfl ?_ ?_
        · intro h137
          replace h137 : ((↑(at8 b at_)) : Int) = 4 := of_decide_eq_true h137
          refine c_exit ?_
          refine x_then ?_
          refine x_miss rfl ?_
          refine x_then ?_
          refine x_miss rfl ?_
          refine x_then ?_
          refine x_hit ?_
          refine n_inb ?_
          refine n_then ?_
          refine c_seq ?_
          refine c_region ?_
          refine s_y (y_move rfl) rfl rfl ?_
          refine s_y (y_move rfl) rfl rfl ?_
          refine s_y (y_iface rfl Tryd.underlying39 rfl) rfl rfl ?_
          refine s_d (d_callR T.ent61 (vs := [.pointer (some ⟨r, 0, none⟩), .int .i64 ↑at_, .iface 39 (.int .i64 71)]) rfl (fail_1 r (at_ + 1) ↑at_ 71 A b.length c _ hr11) (by rintro e w' ⟨_, rfl, -⟩; exact ⟨_, rfl⟩)) rfl rfl ?_
          rintro v144 w142 ⟨gE138, hv145, f143, hg139, hr140, hfa141⟩
          obtain rfl := ret_inj hv145
          have ne146 := row_ne_new hw hg139
          have ne147 : g1 ≠ gE138 := Nat.ne_of_lt (Nat.lt_of_lt_of_le b3.lt hg139)
          have ne148 : r ≠ gE138 := Nat.ne_of_lt (Nat.lt_of_lt_of_le hr11.lt hg139)
          have nw149 := Nat.le_trans hF23.size hg139
          replace hG := hG.fr f143 (by simp only [List.mem_cons, List.not_mem_nil, or_false, not_or]; exact hG.ne_slice hr11)
          replace hw := hw.fr1 f143 hrg
          replace b3 := b3.fr1 f143 ne6.symm
          clear hr11
          have hF150 := hF23.thenIn f143 (by simp)
          refine s_nil ?_
          refine n_then ?_
          refine c_exit ?_
          refine x_hit ?_
          refine n_then ?_
          refine c_seq ?_
          refine c_region ?_
          refine s_y (y_build (vs := []) rfl (T.bz27 _)) rfl rfl ?_
          refine s_d (d_store (cs := [.int .u8 0, .int .u8 0, .int .u8 0, .int .u8 0, .string ⟨[].toArray⟩]) (l' := [.int .u8 0, .int .u8 0, .int .u8 0, .int .u8 0, .string ⟨[].toArray⟩]) T.ty27 rfl rfl b3 rfl rfl (ones rfl) (Nat.le_of_ble_eq_true rfl) rfl) rfl rfl ?_
          rintro _ w151 ⟨rfl, b152, f153⟩
          replace hG := hG.fr f153 (by simp only [List.mem_cons, List.not_mem_nil, or_false, not_or]; exact by omega)
          replace hfa141 := hfa141.fr f153 (nf_cons (nf_blk b3 (by decide)) (nf_nil _ _))
          replace hw := hw.fr1 f153 ne7
          replace hr140 := hr140.fr1 f153 ne6
          clear b3
          have hF154 := hF150.thenNew f153 nw8
          refine s_nil ?_
          refine n_then ?_
          refine c_ret ?_
          refine fin1 (by simp) rfl (rv_A (xs := [.int .u8 0, .int .u8 0, .int .u8 0, .int .u8 0, .string ⟨[].toArray⟩]) T.ty27 rfl b152 rfl rfl) ?_
          have hp : placeL b at_ = (Hs.zero, 0, .one fiveS ↑at_ 71) := by first | exact place_s b at_ (by omega) | exact place_1s b at_ (by omega) (by omega) (by omega) | exact place_t b at_ (by omega) (by omega) (by omega)
          exact ⟨(⟨Ad.zero, []⟩ : Hs), rfl, hF154, .inr ⟨_, _, by omega, hr140, by rw [hp]; exact hfa141⟩⟩
        · intro h155
          replace h155 : ¬ (((↑(at8 b at_)) : Int) = 4) := of_decide_eq_false h155
          refine c_skip ?_
          refine n_then ?_
          refine c_exit ?_
          refine x_miss rfl ?_
          refine x_then ?_
          refine x_miss rfl ?_
          refine x_then ?_
          refine x_miss rfl ?_
          refine x_hit ?_
          refine n_then ?_
          refine c_seq ?_
          refine c_region ?_
          refine s_y (y_move rfl) rfl rfl ?_
          refine s_y (y_move rfl) rfl rfl ?_
          refine s_y (y_iface rfl Tryd.underlying39 rfl) rfl rfl ?_
          refine s_d (d_callR T.ent61 (vs := [.pointer (some ⟨r, 0, none⟩), .int .i64 ↑at_, .iface 39 (.int .i64 71)]) rfl (fail_1 r (at_ + 1) ↑at_ 71 A b.length c _ hr11) (by rintro e w' ⟨_, rfl, -⟩; exact ⟨_, rfl⟩)) rfl rfl ?_
          rintro v162 w160 ⟨gE156, hv163, f161, hg157, hr158, hfa159⟩
          obtain rfl := ret_inj hv163
          have ne164 := row_ne_new hw hg157
          have ne165 : g1 ≠ gE156 := Nat.ne_of_lt (Nat.lt_of_lt_of_le b3.lt hg157)
          have ne166 : r ≠ gE156 := Nat.ne_of_lt (Nat.lt_of_lt_of_le hr11.lt hg157)
          have nw167 := Nat.le_trans hF23.size hg157
          replace hG := hG.fr f161 (by simp only [List.mem_cons, List.not_mem_nil, or_false, not_or]; exact hG.ne_slice hr11)
          replace hw := hw.fr1 f161 hrg
          replace b3 := b3.fr1 f161 ne6.symm
          clear hr11
          have hF168 := hF23.thenIn f161 (by simp)
          refine s_nil ?_
          refine n_then ?_
          refine c_exit ?_
          refine x_hit ?_
          refine n_then ?_
          refine c_seq ?_
          refine c_region ?_
          refine s_y (y_build (vs := []) rfl (T.bz27 _)) rfl rfl ?_
          refine s_d (d_store (cs := [.int .u8 0, .int .u8 0, .int .u8 0, .int .u8 0, .string ⟨[].toArray⟩]) (l' := [.int .u8 0, .int .u8 0, .int .u8 0, .int .u8 0, .string ⟨[].toArray⟩]) T.ty27 rfl rfl b3 rfl rfl (ones rfl) (Nat.le_of_ble_eq_true rfl) rfl) rfl rfl ?_
          rintro _ w169 ⟨rfl, b170, f171⟩
          replace hG := hG.fr f171 (by simp only [List.mem_cons, List.not_mem_nil, or_false, not_or]; exact by omega)
          replace hfa159 := hfa159.fr f171 (nf_cons (nf_blk b3 (by decide)) (nf_nil _ _))
          replace hw := hw.fr1 f171 ne7
          replace hr158 := hr158.fr1 f171 ne6
          clear b3
          have hF172 := hF168.thenNew f171 nw8
          refine s_nil ?_
          refine n_then ?_
          refine c_ret ?_
          refine fin1 (by simp) rfl (rv_A (xs := [.int .u8 0, .int .u8 0, .int .u8 0, .int .u8 0, .string ⟨[].toArray⟩]) T.ty27 rfl b170 rfl rfl) ?_
          have hp : placeL b at_ = (Hs.zero, 0, .one fiveS ↑at_ 71) := by first | exact place_s b at_ (by omega) | exact place_1s b at_ (by omega) (by omega) (by omega) | exact place_t b at_ (by omega) (by omega) (by omega)
          exact ⟨(⟨Ad.zero, []⟩ : Hs), rfl, hF172, .inr ⟨_, _, by omega, hr158, by rw [hp]; exact hfa159⟩⟩
  ·
    have ne173 : r ≠ gE13 := Nat.ne_of_lt (Nat.lt_of_lt_of_le hr.lt hg14)
    have ne174 := row_ne_new hw hg14
    have ne175 : g1 ≠ gE13 := Nat.ne_of_lt (Nat.lt_of_lt_of_le b3.lt hg14)
    have nw176 := Nat.le_trans hF9.size hg14
    replace hG := hG.fr f19 (by simp only [List.mem_cons, List.not_mem_nil, or_false, not_or]; exact hG.ne_slice hr)
    clear hr
    replace hw := hw.fr1 f19 hrg
    replace b3 := b3.fr1 f19 ne6.symm
    have hF177 := hF9.thenIn f19 (by simp)
    refine s_nil ?_
    refine n_then ?_
    refine c_block ?_
    refine c_seq ?_
    refine c_block ?_
    refine c_block ?_
    refine c_seq ?_
    refine c_block ?_
    refine c_seq ?_
    refine c_block ?_
    refine c_seq ?_
    refine c_seq ?_
    refine c_seq ?_
    refine c_region ?_
    refine s_y (y_eql (r := false) rfl rfl rfl) rfl rfl ?_
    refine s_y (y_assign rfl) rfl rfl ?_
    refine s_nil ?_
    refine n_then ?_
    refine c_false rfl ?_
    refine c_skip ?_
    refine n_then ?_
    refine c_seq ?_
    refine c_seq ?_
    refine c_region ?_
    refine s_y (y_eql (r := false) rfl rfl rfl) rfl rfl ?_
    refine s_y (y_assign rfl) rfl rfl ?_
    refine s_nil ?_
    refine n_then ?_
    refine c_false rfl ?_
    refine c_skip ?_
    refine n_then ?_
    refine c_seq ?_
    refine c_region ?_
    refine s_y (y_eql (r := false) rfl rfl rfl) rfl rfl ?_
    refine s_y (y_assign rfl) rfl rfl ?_
    refine s_nil ?_
    refine n_then ?_
    refine c_false rfl ?_
    refine c_skip ?_
    refine n_then ?_
    refine c_exit ?_
    refine x_miss rfl ?_
    refine x_then ?_
    refine x_miss rfl ?_
    refine x_then ?_
    refine x_miss rfl ?_
    refine x_hit ?_
    refine n_then ?_
    refine c_seq ?_
    refine c_region ?_
    refine s_y (y_move rfl) rfl rfl ?_
    refine s_y (y_move rfl) rfl rfl ?_
    refine s_y (y_iface rfl Tryd.underlying39 rfl) rfl rfl ?_
    refine s_d (d_callR T.ent61 (vs := [.pointer (some ⟨r, 0, none⟩), .int .i64 ↑at_, .iface 39 (.int .i64 71)]) rfl (fail_no r at_ gE13 ↑at_ _ A b.length c _ hr15) (by rintro e w' ⟨rfl, -⟩; exact ⟨_, rfl⟩)) rfl rfl ?_
    rintro v180 w178 ⟨hv181, f179⟩
    obtain rfl := ret_inj hv181
    replace hG := hG.fr0 f179
    replace hfa16 := hfa16.fr0 f179
    replace hw := hw.fr0 f179
    replace b3 := b3.fr0 f179
    replace hr15 := hr15.fr0 f179
    have hF182 := hF177.then0 f179
    refine s_nil ?_
    refine n_then ?_
    refine c_exit ?_
    refine x_hit ?_
    refine n_then ?_
    refine c_seq ?_
    refine c_region ?_
    refine s_y (y_build (vs := []) rfl (T.bz27 _)) rfl rfl ?_
    refine s_d (d_store (cs := [.int .u8 0, .int .u8 0, .int .u8 0, .int .u8 0, .string ⟨[].toArray⟩]) (l' := [.int .u8 0, .int .u8 0, .int .u8 0, .int .u8 0, .string ⟨[].toArray⟩]) T.ty27 rfl rfl b3 rfl rfl (ones rfl) (Nat.le_of_ble_eq_true rfl) rfl) rfl rfl ?_
    rintro _ w183 ⟨rfl, b184, f185⟩
    replace hG := hG.fr f185 (by simp only [List.mem_cons, List.not_mem_nil, or_false, not_or]; exact by omega)
    replace hfa16 := hfa16.fr f185 (nf_cons (nf_blk b3 (by decide)) (nf_nil _ _))
    replace hw := hw.fr1 f185 ne7
    replace hr15 := hr15.fr1 f185 ne6
    clear b3
    have hF186 := hF182.thenNew f185 nw8
    refine s_nil ?_
    refine n_then ?_
    refine c_ret ?_
    refine fin1 (by simp) rfl (rv_A (xs := [.int .u8 0, .int .u8 0, .int .u8 0, .int .u8 0, .string ⟨[].toArray⟩]) T.ty27 rfl b184 rfl rfl) ?_
    have hp : placeL b at_ = (Hs.zero, 0, shortE b) := by first | exact place_s b at_ (by omega) | exact place_1s b at_ (by omega) (by omega) (by omega) | exact place_t b at_ (by omega) (by omega) (by omega)
    exact ⟨(⟨Ad.zero, []⟩ : Hs), rfl, hF186, .inr ⟨_, _, by omega, hr15, by rw [hp]; exact hfa16⟩⟩

end Go.Proofs.YtcnepgnfecoeoaaDoor
