/- Messages read: bytes are taken. No condition. -/
import Derived.Test.YtcnepgnfecoeoaaDoorB
import Derived.Test.YtcnepgnfecoeoaaDoorGMem4
import Derived.Test.YtcnepgnfecoeoaaDoorCT
import Derived.Test.YtcnepgnfecoeoaaDoorProg
set_option linter.unusedVariables false
set_option linter.unusedSimpArgs false
namespace Go.Proofs.YtcnepgnfecoeoaaDoor
open Go Go.Proofs.GP Go.Proofs.Tryd
set_option maxHeartbeats 8000000 in
set_option maxRecDepth 100000 in
theorem fail_no (r at_ gE : Nat) (a : Int) (v : Value) (A : Option Addr) (n c : Nat) (w : World) (hr : Blk w r 99 [.slice A n c, .int .i64 ↑at_, .iface 136 (.pointer (some ⟨gE, 0, none⟩))]) :
    Calls Tryd.prog 61 #[.pointer (some ⟨r, 0, none⟩), .int .i64 a, v] w fun e w' => e = .returned (.tuple #[]) ∧ Fr [] w w' := by
  refine c_start (args := [.pointer (some ⟨r, 0, none⟩), .int .i64 a, v]) Tryd.func61 rfl rfl rfl ?_
  try simp only [enum, Nat.zero_add, Nat.reduceAdd]
  have hF0 := Fr.refl [] w
  have lt_hr := hr.lt
  refine c_seq ?_
  refine c_region ?_
  refine s_y (y_move rfl) rfl rfl ?_
  refine s_y (y_nilCheck rfl) rfl rfl ?_
  refine s_y (y_field rfl T.fld99_2 rfl) rfl rfl ?_
  refine s_y (y_ldB T.ty31 rfl hr rfl) rfl rfl ?_
  refine s_y (y_in Tryd.underlying31 rfl rfl) rfl rfl ?_
  refine s_nil ?_
  refine n_then ?_
  refine c_false rfl ?_
  refine c_skip ?_
  refine fin0 (by simp) rfl  ?_
  exact ⟨rfl, hF0⟩

set_option maxHeartbeats 8000000 in
set_option maxRecDepth 100000 in
theorem fail_1 (r at_ : Nat) (a x : Int) (A : Option Addr) (n c : Nat) (w : World) (hr : Blk w r 99 [.slice A n c, .int .i64 ↑at_, .nilIface]) :
    Calls Tryd.prog 61 #[.pointer (some ⟨r, 0, none⟩), .int .i64 a, .iface 39 (.int .i64 x)] w fun e w' => ∃ gE, e = .returned (.tuple #[]) ∧ Fr [r] w w' ∧ w.heap.size ≤ gE ∧ Blk w' r 99 [.slice A n c, .int .i64 ↑at_, .iface 136 (.pointer (some ⟨gE, 0, none⟩))] ∧ FaultAt w' 138 136 39 gE (.one fiveS a x) := by
  refine c_start (args := [.pointer (some ⟨r, 0, none⟩), .int .i64 a, .iface 39 (.int .i64 x)]) Tryd.func61 rfl rfl rfl ?_
  try simp only [enum, Nat.zero_add, Nat.reduceAdd]
  have hF0 := Fr.refl [r] w
  have lt_hr := hr.lt
  refine c_seq ?_
  refine c_region ?_
  refine s_y (y_move rfl) rfl rfl ?_
  refine s_y (y_nilCheck rfl) rfl rfl ?_
  refine s_y (y_field rfl T.fld99_2 rfl) rfl rfl ?_
  refine s_y (y_ldB T.ty31 rfl hr rfl) rfl rfl ?_
  refine s_y (y_ii Tryd.underlying31 rfl) rfl rfl ?_
  refine s_nil ?_
  refine n_then ?_
  refine c_true rfl ?_
  refine c_region ?_
  refine s_y (y_move rfl) rfl rfl ?_
  refine s_y (y_move rfl) rfl rfl ?_
  refine s_y (y_move rfl) rfl rfl ?_
  refine s_y (y_build (vs := [(0, .string ⟨([102, 105, 118, 101] : List UInt8).toArray⟩), (1, .int .i64 a), (2, .iface 39 (.int .i64 x))]) rfl (by apply T.lit0)) rfl rfl ?_
  refine s_d (d_box (cs := [.string ⟨([102, 105, 118, 101] : List UInt8).toArray⟩, .int .i64 a, .iface 39 (.int .i64 x)]) rfl rfl) rfl rfl ?_
  rintro _ w2 ⟨g1, rfl, hg5, b3, f4⟩
  have ne6 : r ≠ g1 := Nat.ne_of_lt (Nat.lt_of_lt_of_le hr.lt hg5)
  have nw7 := Nat.le_trans hF0.size hg5
  replace hr := hr.fr0 f4
  have hF8 := hF0.then0 f4
  refine s_y (y_iface rfl Tryd.underlying136 rfl) rfl rfl ?_
  refine s_y (y_nilCheck rfl) rfl rfl ?_
  refine s_y (y_field rfl T.fld99_2 rfl) rfl rfl ?_
  refine s_d (d_store (cs := [.iface 136 (.pointer (some ⟨g1, 0, none⟩))]) (l' := [.slice A n c, .int .i64 ↑at_, .iface 136 (.pointer (some ⟨g1, 0, none⟩))]) T.ty31 rfl rfl hr rfl rfl (ones rfl) (Nat.le_of_ble_eq_true rfl) rfl) rfl rfl ?_
  rintro _ w9 ⟨rfl, b10, f11⟩
  replace b3 := b3.fr1 f11 ne6.symm
  clear hr
  have hF12 := hF8.thenIn f11 (by simp)
  refine s_nil ?_
  refine fin0 (by simp) rfl  ?_
  exact ⟨_, rfl, hF12, nw7, b10, b3⟩

set_option maxHeartbeats 8000000 in
set_option maxRecDepth 100000 in
theorem fail_2 (r at_ g0 : Nat) (a x y : Int) (l : By) (A : Option Addr) (n c : Nat) (w : World) (hr : Blk w r 99 [.slice A n c, .int .i64 ↑at_, .nilIface]) (h0 : FaultAt w 138 136 39 g0 (.one l x y)) :
    Calls Tryd.prog 61 #[.pointer (some ⟨r, 0, none⟩), .int .i64 a, .iface 136 (.pointer (some ⟨g0, 0, none⟩))] w fun e w' => ∃ gE, e = .returned (.tuple #[]) ∧ Fr [r] w w' ∧ w.heap.size ≤ gE ∧ Blk w' r 99 [.slice A n c, .int .i64 ↑at_, .iface 136 (.pointer (some ⟨gE, 0, none⟩))] ∧ FaultAt w' 138 136 39 gE (.two fiveS a l x y) := by
  refine c_start (args := [.pointer (some ⟨r, 0, none⟩), .int .i64 a, .iface 136 (.pointer (some ⟨g0, 0, none⟩))]) Tryd.func61 rfl rfl rfl ?_
  try simp only [enum, Nat.zero_add, Nat.reduceAdd]
  have hF0 := Fr.refl [r] w
  have lt_hr := hr.lt
  refine c_seq ?_
  refine c_region ?_
  refine s_y (y_move rfl) rfl rfl ?_
  refine s_y (y_nilCheck rfl) rfl rfl ?_
  refine s_y (y_field rfl T.fld99_2 rfl) rfl rfl ?_
  refine s_y (y_ldB T.ty31 rfl hr rfl) rfl rfl ?_
  refine s_y (y_ii Tryd.underlying31 rfl) rfl rfl ?_
  refine s_nil ?_
  refine n_then ?_
  refine c_true rfl ?_
  refine c_region ?_
  refine s_y (y_move rfl) rfl rfl ?_
  refine s_y (y_move rfl) rfl rfl ?_
  refine s_y (y_move rfl) rfl rfl ?_
  refine s_y (y_build (vs := [(0, .string ⟨([102, 105, 118, 101] : List UInt8).toArray⟩), (1, .int .i64 a), (2, .iface 136 (.pointer (some ⟨g0, 0, none⟩)))]) rfl (by apply T.lit0)) rfl rfl ?_
  refine s_d (d_box (cs := [.string ⟨([102, 105, 118, 101] : List UInt8).toArray⟩, .int .i64 a, .iface 136 (.pointer (some ⟨g0, 0, none⟩))]) rfl rfl) rfl rfl ?_
  rintro _ w2 ⟨g1, rfl, hg5, b3, f4⟩
  have ne6 : r ≠ g1 := Nat.ne_of_lt (Nat.lt_of_lt_of_le hr.lt hg5)
  have nw7 := Nat.le_trans hF0.size hg5
  replace h0 := h0.fr0 f4
  replace hr := hr.fr0 f4
  have hF8 := hF0.then0 f4
  refine s_y (y_iface rfl Tryd.underlying136 rfl) rfl rfl ?_
  refine s_y (y_nilCheck rfl) rfl rfl ?_
  refine s_y (y_field rfl T.fld99_2 rfl) rfl rfl ?_
  refine s_d (d_store (cs := [.iface 136 (.pointer (some ⟨g1, 0, none⟩))]) (l' := [.slice A n c, .int .i64 ↑at_, .iface 136 (.pointer (some ⟨g1, 0, none⟩))]) T.ty31 rfl rfl hr rfl rfl (ones rfl) (Nat.le_of_ble_eq_true rfl) rfl) rfl rfl ?_
  rintro _ w9 ⟨rfl, b10, f11⟩
  replace h0 := h0.fr f11 (nf_cons (nf_blk hr (by decide)) (nf_nil _ _))
  replace b3 := b3.fr1 f11 ne6.symm
  clear hr
  have hF12 := hF8.thenIn f11 (by simp)
  refine s_nil ?_
  refine fin0 (by simp) rfl  ?_
  exact ⟨_, rfl, hF12, nw7, b10, ⟨_, b3, h0⟩⟩

set_option maxHeartbeats 8000000 in
set_option maxRecDepth 100000 in
theorem take_err (r at_ gE n : Nat) (A : Option Addr) (g o c : Nat) (b : By) (w : World) (hn : n ≤ 1000) (hb : b.length ≤ 9223372036854775807) (hr : Blk w r 99 [.slice A b.length c, .int .i64 ↑at_, .iface 136 (.pointer (some ⟨gE, 0, none⟩))]) :
    Calls Tryd.prog 63 #[.pointer (some ⟨r, 0, none⟩), .int .i64 ↑n] w fun e w' => ∃ gN, e = .returned (.slice (some ⟨gN, 0, none⟩) n n) ∧ Fr [] w w' ∧ w.heap.size ≤ gN ∧ Blk w' gN 5 (List.replicate n (.int .u8 0)) := by
  refine c_start (args := [.pointer (some ⟨r, 0, none⟩), .int .i64 ↑n]) Tryd.func63 rfl rfl rfl ?_
  try simp only [enum, Nat.zero_add, Nat.reduceAdd]
  have hF0 := Fr.refl [] w
  have lt_hr := hr.lt
  refine c_seq ?_
  refine c_region ?_
  refine s_y (y_assign rfl) rfl rfl ?_
  refine s_nil ?_
  refine n_then ?_
  refine c_seq ?_
  refine c_seq ?_
  refine dr_begin (fun W => Blk W r 99 [.slice A b.length c, .int .i64 ↑at_, .iface 136 (.pointer (some ⟨gE, 0, none⟩))]) 19 (by kernel_rfl) ?_
  intro w1 f2
  replace hr := hr.fr0 f2
  have hF3 := hF0.then0 f2
  refine dr_y 0 rfl (fun _ => y_move rfl) rfl (by kernel_rfl) (qp_then (qp_then qp_body)) (fun _ => hr) ?_
  refine dr_y 1 rfl (fun _ => y_nilCheck rfl) rfl (by kernel_rfl) (qp_then (qp_then qp_body)) (fun _ => hr) ?_
  refine dr_y 2 rfl (fun _ => y_field rfl T.fld99_2 rfl) rfl (by kernel_rfl) (qp_then (qp_then qp_body)) (fun _ => hr) ?_
  refine dr_l 3 rfl (fun _ hS => by have q0 := hS; exact y_ldB T.ty31 rfl q0 rfl) rfl (by kernel_rfl) (qp_then (qp_then qp_body)) hr ?_
  refine dr_y 4 rfl (fun _ => y_inx Tryd.underlying31 rfl rfl) rfl (by kernel_rfl) (qp_then (qp_then qp_body)) (fun _ => hr) ?_
  refine dr_y 5 rfl (fun _ => y_move rfl) rfl (by kernel_rfl) (qp_then (qp_then qp_body)) (fun _ => hr) ?_
  refine dr_skip 6 rfl ⟨_, _, _, _, rfl, rfl, rfl, rfl⟩ (by kernel_rfl) (qp_then (qp_then qp_body)) (fun _ => hr) ?_
  refine dr_skip 7 rfl ⟨_, _, _, _, rfl, rfl, rfl, rfl⟩ (by kernel_rfl) (qp_then (qp_then qp_body)) (fun _ => hr) ?_
  refine dr_skip 8 rfl ⟨_, _, _, _, rfl, rfl, rfl, rfl⟩ (by kernel_rfl) (qp_then (qp_then qp_body)) (fun _ => hr) ?_
  refine dr_skip 9 rfl ⟨_, _, _, _, rfl, rfl, rfl, rfl⟩ (by kernel_rfl) (qp_then (qp_then qp_body)) (fun _ => hr) ?_
  refine dr_skip 10 rfl ⟨_, _, _, _, rfl, rfl, rfl, rfl⟩ (by kernel_rfl) (qp_then (qp_then qp_body)) (fun _ => hr) ?_
  refine dr_skip 11 rfl ⟨_, _, _, _, rfl, rfl, rfl, rfl⟩ (by kernel_rfl) (qp_then (qp_then qp_body)) (fun _ => hr) ?_
  refine dr_skip 12 rfl ⟨_, _, _, _, rfl, rfl, rfl, rfl⟩ (by kernel_rfl) (qp_then (qp_then qp_body)) (fun _ => hr) ?_
  refine dr_skip 13 rfl ⟨_, _, _, _, rfl, rfl, rfl, rfl⟩ (by kernel_rfl) (qp_then (qp_then qp_body)) (fun _ => hr) ?_
  refine dr_skip 14 rfl ⟨_, _, _, _, rfl, rfl, rfl, rfl⟩ (by kernel_rfl) (qp_then (qp_then qp_body)) (fun _ => hr) ?_
  refine dr_skip 15 rfl ⟨_, _, _, _, rfl, rfl, rfl, rfl⟩ (by kernel_rfl) (qp_then (qp_then qp_body)) (fun _ => hr) ?_
  refine dr_skip 16 rfl ⟨_, _, _, _, rfl, rfl, rfl, rfl⟩ (by kernel_rfl) (qp_then (qp_then qp_body)) (fun _ => hr) ?_
  refine dr_skip 17 rfl ⟨_, _, _, _, rfl, rfl, rfl, rfl⟩ (by kernel_rfl) (qp_then (qp_then qp_body)) (fun _ => hr) ?_
  refine dr_y 18 rfl (fun _ => y_pick rfl rfl rfl rfl) rfl (by kernel_rfl) (qp_then (qp_then qp_body)) (fun _ => hr) ?_
  refine dr_done (by kernel_rfl) ?_
  refine n_then ?_
  refine c_true rfl ?_
  refine c_seq ?_
  refine c_region ?_
  refine s_y (y_move rfl) rfl rfl ?_
  refine s_y (y_move rfl) rfl rfl ?_
  refine s_y (y_nilCheck rfl) rfl rfl ?_
  refine s_y (y_field rfl T.fld99_0 rfl) rfl rfl ?_
  refine s_y (y_ldB T.ty22 rfl hr rfl) rfl rfl ?_
  refine s_y (y_len Tryd.underlying22 rfl) rfl rfl ?_
  refine s_y (y_iface rfl Tryd.underlying39 rfl) rfl rfl ?_
  refine s_d (d_callR T.ent61 (vs := [.pointer (some ⟨r, 0, none⟩), .int .i64 ↑b.length, .iface 39 (.int .i64 6)]) rfl (fail_no r at_ gE ↑b.length _ A b.length c _ hr) (by rintro e w' ⟨rfl, -⟩; exact ⟨_, rfl⟩)) rfl rfl ?_
  rintro v6 w4 ⟨hv7, f5⟩
  obtain rfl := ret_inj hv7
  replace hr := hr.fr0 f5
  have hF8 := hF3.then0 f5
  refine s_nil ?_
  refine n_then ?_
  refine c_seq ?_
  refine c_region ?_
  refine s_y (y_move rfl) rfl rfl ?_
  refine s_d (d_make (cs := List.replicate n (.int .u8 0)) rfl rfl (make_n (by_ := 1) Tryd.underlying22 (by kernel_rfl) rfl n (by omega) (by omega))) rfl rfl ?_
  rintro _ w10 ⟨g9, rfl, hg13, b11, f12⟩
  have ne14 : r ≠ g9 := Nat.ne_of_lt (Nat.lt_of_lt_of_le hr.lt hg13)
  have nw15 := Nat.le_trans hF8.size hg13
  replace hr := hr.fr0 f12
  have hF16 := hF8.then0 f12
  refine s_y (y_assign rfl) rfl rfl ?_
  refine s_nil ?_
  refine n_then ?_
  refine c_ret ?_
  refine r_then ?_
  refine fin1 (by simp) rfl rfl ?_
  exact ⟨_, rfl, hF16, nw15, b11⟩

set_option maxHeartbeats 8000000 in
set_option maxRecDepth 100000 in
theorem take_ok (r at_ n : Nat) (A : Option Addr) (g o c : Nat) (b : By) (w : World) (hn : n ≤ 1000) (hat : at_ ≤ b.length) (hb : b.length ≤ 9223372036854775807) (hc : b.length ≤ c) (hrg : b.map bv = [] ∨ g ≠ r) (hr : Blk w r 99 [.slice A b.length c, .int .i64 ↑at_, .nilIface]) (hw : Row w A g o b.length 1 (b.map bv)) :
    Calls Tryd.prog 63 #[.pointer (some ⟨r, 0, none⟩), .int .i64 ↑n] w fun e w' => ∃ A' c', e = .returned (.slice A' n c') ∧ Fr [r] w w' ∧ ((at_ + n ≤ b.length ∧ Row w' A' g (o + at_) n 1 (((b.drop at_).take n).map bv) ∧ Blk w' r 99 [.slice A b.length c, .int .i64 (↑(at_ + n)), .nilIface]) ∨ (b.length < at_ + n ∧ ∃ gN gE, A' = some ⟨gN, 0, none⟩ ∧ w.heap.size ≤ gN ∧ w.heap.size ≤ gE ∧ Blk w' gN 5 (List.replicate n (.int .u8 0)) ∧ Blk w' r 99 [.slice A b.length c, .int .i64 ↑at_, .iface 136 (.pointer (some ⟨gE, 0, none⟩))] ∧ FaultAt w' 138 136 39 gE (shortE b))) := by
  refine c_start (args := [.pointer (some ⟨r, 0, none⟩), .int .i64 ↑n]) Tryd.func63 rfl rfl rfl ?_
  try simp only [enum, Nat.zero_add, Nat.reduceAdd]
  have hF0 := Fr.refl [r] w
  have lt_hr := hr.lt
  have lt_hw := hw.lt'
  refine c_seq ?_
  refine c_region ?_
  refine s_y (y_assign rfl) rfl rfl ?_
  refine s_nil ?_
  refine n_then ?_
  refine c_seq ?_
  refine c_seq ?_
  refine dr_begin (fun W => Blk W r 99 [.slice A b.length c, .int .i64 ↑at_, .nilIface] ∧ Row W A g o b.length 1 (b.map bv)) 19 (by kernel_rfl) ?_
  intro w1 f2
  replace hr := hr.fr0 f2
  replace hw := hw.fr0 f2
  have hF3 := hF0.then0 f2
  refine dr_y 0 rfl (fun _ => y_move rfl) rfl (by kernel_rfl) (qp_then (qp_then qp_body)) (fun _ => ⟨hr, hw⟩) ?_
  refine dr_y 1 rfl (fun _ => y_nilCheck rfl) rfl (by kernel_rfl) (qp_then (qp_then qp_body)) (fun _ => ⟨hr, hw⟩) ?_
  refine dr_y 2 rfl (fun _ => y_field rfl T.fld99_2 rfl) rfl (by kernel_rfl) (qp_then (qp_then qp_body)) (fun _ => ⟨hr, hw⟩) ?_
  refine dr_l 3 rfl (fun _ hS => by obtain ⟨q0, q1⟩ := hS; exact y_ldB T.ty31 rfl q0 rfl) rfl (by kernel_rfl) (qp_then (qp_then qp_body)) ⟨hr, hw⟩ ?_
  refine dr_y 4 rfl (fun _ => y_iix Tryd.underlying31 rfl) rfl (by kernel_rfl) (qp_then (qp_then qp_body)) (fun _ => ⟨hr, hw⟩) ?_
  refine dr_y 5 rfl (fun _ => y_move rfl) rfl (by kernel_rfl) (qp_then (qp_then qp_body)) (fun _ => ⟨hr, hw⟩) ?_
  refine dr_gy 6 rfl (fun _ => y_move rfl) ⟨_, _, _, _, rfl, rfl, rfl, rfl⟩ (by kernel_rfl) (qp_then (qp_then qp_body)) (fun _ => ⟨hr, hw⟩) ?_
  refine dr_gy 7 rfl (fun _ => y_move rfl) ⟨_, _, _, _, rfl, rfl, rfl, rfl⟩ (by kernel_rfl) (qp_then (qp_then qp_body)) (fun _ => ⟨hr, hw⟩) ?_
  refine dr_gy 8 rfl (fun _ => y_nilCheck rfl) ⟨_, _, _, _, rfl, rfl, rfl, rfl⟩ (by kernel_rfl) (qp_then (qp_then qp_body)) (fun _ => ⟨hr, hw⟩) ?_
  refine dr_gy 9 rfl (fun _ => y_field rfl T.fld99_0 rfl) ⟨_, _, _, _, rfl, rfl, rfl, rfl⟩ (by kernel_rfl) (qp_then (qp_then qp_body)) (fun _ => ⟨hr, hw⟩) ?_
  refine dr_gl 10 rfl (fun _ hS => by obtain ⟨q0, q1⟩ := hS; exact y_ldB T.ty22 rfl q0 rfl) ⟨_, _, _, _, rfl, rfl, rfl, rfl⟩ (by kernel_rfl) (qp_then (qp_then qp_body)) ⟨hr, hw⟩ ?_
  refine dr_gy 11 rfl (fun _ => y_len Tryd.underlying22 rfl) ⟨_, _, _, _, rfl, rfl, rfl, rfl⟩ (by kernel_rfl) (qp_then (qp_then qp_body)) (fun _ => ⟨hr, hw⟩) ?_
  refine dr_gy 12 rfl (fun _ => y_move rfl) ⟨_, _, _, _, rfl, rfl, rfl, rfl⟩ (by kernel_rfl) (qp_then (qp_then qp_body)) (fun _ => ⟨hr, hw⟩) ?_
  refine dr_gy 13 rfl (fun _ => y_nilCheck rfl) ⟨_, _, _, _, rfl, rfl, rfl, rfl⟩ (by kernel_rfl) (qp_then (qp_then qp_body)) (fun _ => ⟨hr, hw⟩) ?_
  refine dr_gy 14 rfl (fun _ => y_field rfl T.fld99_1 rfl) ⟨_, _, _, _, rfl, rfl, rfl, rfl⟩ (by kernel_rfl) (qp_then (qp_then qp_body)) (fun _ => ⟨hr, hw⟩) ?_
  refine dr_gl 15 rfl (fun _ hS => by obtain ⟨q0, q1⟩ := hS; exact y_ldB T.ty3 rfl q0 rfl) ⟨_, _, _, _, rfl, rfl, rfl, rfl⟩ (by kernel_rfl) (qp_then (qp_then qp_body)) ⟨hr, hw⟩ ?_
  refine dr_gy 16 rfl (fun _ => y_sub rfl rfl (wrI (by omega) (by omega))) ⟨_, _, _, _, rfl, rfl, rfl, rfl⟩ (by kernel_rfl) (qp_then (qp_then qp_body)) (fun _ => ⟨hr, hw⟩) ?_
  refine dr_gy 17 rfl (fun _ => y_gtr rfl rfl rfl) ⟨_, _, _, _, rfl, rfl, rfl, rfl⟩ (by kernel_rfl) (qp_then (qp_then qp_body)) (fun _ => ⟨hr, hw⟩) ?_
  refine dr_y 18 rfl (fun _ => y_pick rfl rfl rfl rfl) rfl (by kernel_rfl) (qp_then (qp_then qp_body)) (fun _ => ⟨hr, hw⟩) ?_
  refine dr_done (by kernel_rfl) ?_
  refine n_then ?_
  refine c_cond rfl ?_ ?_
  · intro h4
    replace h4 : (((↑b.length : Int) - (↑at_ : Int)) : Int) < ↑n := of_decide_eq_true h4
    refine c_seq ?_
    refine c_region ?_
    refine s_y (y_move rfl) rfl rfl ?_
    refine s_y (y_move rfl) rfl rfl ?_
    refine s_y (y_nilCheck rfl) rfl rfl ?_
    refine s_y (y_field rfl T.fld99_0 rfl) rfl rfl ?_
    refine s_y (y_ldB T.ty22 rfl hr rfl) rfl rfl ?_
    refine s_y (y_len Tryd.underlying22 rfl) rfl rfl ?_
    refine s_y (y_iface rfl Tryd.underlying39 rfl) rfl rfl ?_
    refine s_d (d_callR T.ent61 (vs := [.pointer (some ⟨r, 0, none⟩), .int .i64 ↑b.length, .iface 39 (.int .i64 6)]) rfl (fail_1 r at_ ↑b.length 6 A b.length c _ hr) (by rintro e w' ⟨_, rfl, -⟩; exact ⟨_, rfl⟩)) rfl rfl ?_
    rintro v11 w9 ⟨gE5, hv12, f10, hg6, hr7, hfa8⟩
    obtain rfl := ret_inj hv12
    have ne13 : r ≠ gE5 := Nat.ne_of_lt (Nat.lt_of_lt_of_le hr.lt hg6)
    have ne14 := row_ne_new hw hg6
    have nw15 := Nat.le_trans hF3.size hg6
    clear hr
    replace hw := hw.fr1 f10 hrg
    have hF16 := hF3.thenIn f10 (by simp)
    refine s_nil ?_
    refine n_then ?_
    refine c_seq ?_
    refine c_region ?_
    refine s_y (y_move rfl) rfl rfl ?_
    refine s_d (d_make (cs := List.replicate n (.int .u8 0)) rfl rfl (make_n (by_ := 1) Tryd.underlying22 (by kernel_rfl) rfl n (by omega) (by omega))) rfl rfl ?_
    rintro _ w18 ⟨g17, rfl, hg21, b19, f20⟩
    have ne22 := row_ne_new hw hg21
    have ne23 : r ≠ g17 := Nat.ne_of_lt (Nat.lt_of_lt_of_le hr7.lt hg21)
    have nw24 := Nat.le_trans hF16.size hg21
    replace hfa8 := hfa8.fr0 f20
    replace hw := hw.fr0 f20
    replace hr7 := hr7.fr0 f20
    have hF25 := hF16.then0 f20
    refine s_y (y_assign rfl) rfl rfl ?_
    refine s_nil ?_
    refine n_then ?_
    refine c_ret ?_
    refine r_then ?_
    refine fin1 (by simp) rfl rfl ?_
    exact ⟨_, _, rfl, hF25, .inr ⟨by omega, _, _, rfl, nw24, nw15, b19, hr7, hfa8⟩⟩
  · intro h26
    replace h26 : ¬ ((((↑b.length : Int) - (↑at_ : Int)) : Int) < ↑n) := of_decide_eq_false h26
    refine c_skip ?_
    refine n_then ?_
    refine c_seq ?_
    refine c_region ?_
    refine s_y (y_move rfl) rfl rfl ?_
    refine s_y (y_nilCheck rfl) rfl rfl ?_
    refine s_y (y_field rfl T.fld99_1 rfl) rfl rfl ?_
    refine s_y (y_ldB T.ty3 rfl hr rfl) rfl rfl ?_
    refine s_y (y_move rfl) rfl rfl ?_
    refine s_y (y_add rfl rfl (wrI (by omega) (by omega))) rfl rfl ?_
    refine s_y (y_nilCheck rfl) rfl rfl ?_
    refine s_y (y_field rfl T.fld99_1 rfl) rfl rfl ?_
    refine s_d (d_store (cs := [.int .i64 ((↑at_ : Int) + (↑n : Int))]) (l' := [.slice A b.length c, .int .i64 ((↑at_ : Int) + (↑n : Int)), .nilIface]) T.ty3 rfl rfl hr rfl rfl (ones rfl) (Nat.le_of_ble_eq_true rfl) rfl) rfl rfl ?_
    rintro _ w27 ⟨rfl, b28, f29⟩
    replace hw := hw.fr1 f29 hrg
    clear hr
    have hF30 := hF3.thenIn f29 (by simp)
    refine s_nil ?_
    refine n_then ?_
    refine c_seq ?_
    refine dr_begin (fun W => Row W A g o b.length 1 (b.map bv) ∧ Blk W r 99 [.slice A b.length c, .int .i64 ((↑at_ : Int) + (↑n : Int)), .nilIface]) 16 (by kernel_rfl) ?_
    intro w31 f32
    replace hw := hw.fr0 f32
    replace b28 := b28.fr0 f32
    have hF33 := hF30.then0 f32
    refine dr_y 0 rfl (fun _ => y_move rfl) rfl (by kernel_rfl) (qp_then qp_body) (fun _ => ⟨hw, b28⟩) ?_
    refine dr_y 1 rfl (fun _ => y_nilCheck rfl) rfl (by kernel_rfl) (qp_then qp_body) (fun _ => ⟨hw, b28⟩) ?_
    refine dr_y 2 rfl (fun _ => y_field rfl T.fld99_0 rfl) rfl (by kernel_rfl) (qp_then qp_body) (fun _ => ⟨hw, b28⟩) ?_
    refine dr_l 3 rfl (fun _ hS => by obtain ⟨q0, q1⟩ := hS; exact y_ldB T.ty22 rfl q1 rfl) rfl (by kernel_rfl) (qp_then qp_body) ⟨hw, b28⟩ ?_
    refine dr_y 4 rfl (fun _ => y_move rfl) rfl (by kernel_rfl) (qp_then qp_body) (fun _ => ⟨hw, b28⟩) ?_
    refine dr_y 5 rfl (fun _ => y_nilCheck rfl) rfl (by kernel_rfl) (qp_then qp_body) (fun _ => ⟨hw, b28⟩) ?_
    refine dr_y 6 rfl (fun _ => y_field rfl T.fld99_1 rfl) rfl (by kernel_rfl) (qp_then qp_body) (fun _ => ⟨hw, b28⟩) ?_
    refine dr_l 7 rfl (fun _ hS => by obtain ⟨q0, q1⟩ := hS; exact y_ldB T.ty3 rfl q1 rfl) rfl (by kernel_rfl) (qp_then qp_body) ⟨hw, b28⟩ ?_
    refine dr_y 8 rfl (fun _ => y_move rfl) rfl (by kernel_rfl) (qp_then qp_body) (fun _ => ⟨hw, b28⟩) ?_
    refine dr_y 9 rfl (fun _ => y_sub rfl rfl (wrI (by omega) (by omega))) rfl (by kernel_rfl) (qp_then qp_body) (fun _ => ⟨hw, b28⟩) ?_
    refine dr_y 10 rfl (fun _ => y_move rfl) rfl (by kernel_rfl) (qp_then qp_body) (fun _ => ⟨hw, b28⟩) ?_
    refine dr_y 11 rfl (fun _ => y_nilCheck rfl) rfl (by kernel_rfl) (qp_then qp_body) (fun _ => ⟨hw, b28⟩) ?_
    refine dr_y 12 rfl (fun _ => y_field rfl T.fld99_1 rfl) rfl (by kernel_rfl) (qp_then qp_body) (fun _ => ⟨hw, b28⟩) ?_
    refine dr_l 13 rfl (fun _ hS => by obtain ⟨q0, q1⟩ := hS; exact y_ldB T.ty3 rfl q1 rfl) rfl (by kernel_rfl) (qp_then qp_body) ⟨hw, b28⟩ ?_
    refine dr_1 (i := 14) (by kernel_rfl) ?_
    refine rd_d rfl (d_slicelh (l := at_) (m := (at_ + n)) (n' := n) (o' := o + (at_ * 1)) (ys := (((b.drop at_).take n).map bv)) Tryd.underlying22 T.ty5 rfl rfl (by omega) rfl (by omega) hw (by omega) (by omega) (by omega) (by omega) (by omega) (cut_bv b at_ n)) rfl rfl ?_
    rintro _ _ ⟨A34, c35, rfl, rfl, r36, hc37⟩
    refine ⟨fun _ => ⟨hw, b28⟩, ?_⟩
    refine dr_y 15 rfl (fun _ => y_assign rfl) rfl (by kernel_rfl) (qp_then qp_body) (fun _ => ⟨hw, b28⟩) ?_
    refine dr_done (by kernel_rfl) ?_
    refine n_then ?_
    refine c_ret ?_
    refine fin1 (by simp) rfl rfl ?_
    exact ⟨_, _, rfl, hF33, .inl ⟨by omega, (by have h := r36; rw [Nat.mul_one] at h; exact h), b28⟩⟩

end Go.Proofs.YtcnepgnfecoeoaaDoor
