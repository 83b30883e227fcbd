/- Messages read: one byte, a version, a text. No condition. -/
import Derived.Test.YtcnepgnfecoeoaaDoorC
import Derived.Test.YtcnepgnfecoeoaaDoorGMem4
import Derived.Test.YtcnepgnfecoeoaaDoorDT
import Derived.Test.YtcnepgnfecoeoaaDoorProg
set_option linter.unusedVariables false
set_option linter.unusedSimpArgs false
namespace Go.Proofs.YtcnepgnfecoeoaaDoor
open Go Go.Proofs.GP Go.Proofs.Tryd
set_option maxHeartbeats 8000000 in
set_option maxRecDepth 100000 in
theorem one_err (r at_ gE : Nat) (A : Option Addr) (g o c : Nat) (b : By) (w : World) (hb : b.length ≤ 9223372036854775807) (hr : Blk w r 99 [.slice A b.length c, .int .i64 ↑at_, .iface 136 (.pointer (some ⟨gE, 0, none⟩))]) :
    Calls Tryd.prog 60 #[.pointer (some ⟨r, 0, none⟩)] w fun e w' => e = .returned (.int .i64 0) ∧ Fr [] w w' := by
  refine c_start (args := [.pointer (some ⟨r, 0, none⟩)]) Tryd.func60 rfl rfl rfl ?_
  try simp only [enum, Nat.zero_add, Nat.reduceAdd]
  have hF0 := Fr.refl [] w
  have lt_hr := hr.lt
  refine c_seq ?_
  refine c_region ?_
  refine s_y (y_assign rfl) rfl rfl ?_
  refine s_nil ?_
  refine n_then ?_
  refine c_seq ?_
  refine c_region ?_
  refine s_y (y_move rfl) rfl rfl ?_
  refine s_d (d_callR T.ent63 (vs := [.pointer (some ⟨r, 0, none⟩), .int .i64 1]) rfl (take_err r at_ gE 1 A g o c b _ (by omega) hb hr) (by rintro e w' ⟨_, rfl, -⟩; exact ⟨_, rfl⟩)) rfl rfl ?_
  rintro v6 w4 ⟨gN1, hv7, f5, hg2, hb3⟩
  obtain rfl := ret_inj hv7
  have ne8 : r ≠ gN1 := Nat.ne_of_lt (Nat.lt_of_lt_of_le hr.lt hg2)
  have nw9 := Nat.le_trans hF0.size hg2
  replace hr := hr.fr0 f5
  have hF10 := hF0.then0 f5
  refine s_y (y_index (r := 0) Tryd.underlying22 T.ty5 rfl rfl rfl (by omega) (by omega) (by rfl)) rfl rfl ?_
  refine s_y (y_ldB (v := .int .u8 (↑(0 : UInt8).toNat)) T.ty5 rfl hb3 rfl) rfl rfl ?_
  refine s_y (y_convb_i64 Tryd.underlying5 Tryd.underlying3 rfl) rfl rfl ?_
  refine s_y (y_assign rfl) rfl rfl ?_
  refine s_nil ?_
  refine n_then ?_
  refine c_ret ?_
  refine fin1 (by simp) rfl rfl ?_
  exact ⟨rfl, hF10⟩

set_option maxHeartbeats 8000000 in
set_option maxRecDepth 100000 in
theorem one_ok (r at_ : Nat) (A : Option Addr) (g o c : Nat) (b : By) (w : World) (hat : at_ ≤ b.length) (hb : b.length ≤ 9223372036854775807) (hc : b.length ≤ c) (hrg : b.map bv = [] ∨ g ≠ r) (hr : Blk w r 99 [.slice A b.length c, .int .i64 ↑at_, .nilIface]) (hw : Row w A g o b.length 1 (b.map bv)) :
    Calls Tryd.prog 60 #[.pointer (some ⟨r, 0, none⟩)] w fun e w' => ∃ x : Int, e = .returned (.int .i64 x) ∧ Fr [r] w w' ∧ ((x = ↑(at8 b at_) ∧ at_ < b.length ∧ Blk w' r 99 [.slice A b.length c, .int .i64 (↑(at_ + 1)), .nilIface]) ∨ (x = 0 ∧ b.length ≤ at_ ∧ ∃ gE, w.heap.size ≤ gE ∧ Blk w' r 99 [.slice A b.length c, .int .i64 ↑at_, .iface 136 (.pointer (some ⟨gE, 0, none⟩))] ∧ FaultAt w' 138 136 39 gE (shortE b))) := by
  refine c_start (args := [.pointer (some ⟨r, 0, none⟩)]) Tryd.func60 rfl rfl rfl ?_
  try simp only [enum, Nat.zero_add, Nat.reduceAdd]
  have hF0 := Fr.refl [r] w
  have lt_hr := hr.lt
  have lt_hw := hw.lt'
  refine c_seq ?_
  refine c_region ?_
  refine s_y (y_assign rfl) rfl rfl ?_
  refine s_nil ?_
  refine n_then ?_
  refine c_seq ?_
  refine c_region ?_
  refine s_y (y_move rfl) rfl rfl ?_
  refine s_d (d_callR T.ent63 (vs := [.pointer (some ⟨r, 0, none⟩), .int .i64 1]) rfl (take_ok r at_ 1 A g o c b _ (by omega) (by omega) hb hc hrg hr hw) (by rintro e w' ⟨_, _, rfl, -⟩; exact ⟨_, rfl⟩)) rfl rfl ?_
  rintro v16 w14 ⟨A1, c2, hv17, f15, ha18⟩
  obtain rfl := ret_inj hv17
  rcases ha18 with ⟨hlt3, rw4, hr5⟩ | ⟨hlt6, gN7, gE8, rfl, hgN9, hgE10, hbN11, hr12, hfa13⟩
  ·
    clear hr
    replace hw := hw.fr1 f15 hrg
    have hF19 := hF0.thenIn f15 (by simp)
    try have hgl20 : g < w.heap.size := lt_hw.resolve_left (bv_ne (by omega))
    refine s_y (y_index (r := (o + at_) + 0) Tryd.underlying22 T.ty5 rfl rfl (rw4.addr (j := 0) (by simp; omega)) (by omega) (by omega) (by omega)) rfl rfl ?_
    refine s_y (y_ldR (v := .int .u8 (↑(b.getD (at_ + 0) 0).toNat)) (j := 0) T.ty5 rfl rw4 (by first | rfl | omega) (sub_at b at_ 1 0 (by omega) (by omega))) rfl rfl ?_
    refine s_y (y_convb_i64 Tryd.underlying5 Tryd.underlying3 rfl) rfl rfl ?_
    refine s_y (y_assign rfl) rfl rfl ?_
    refine s_nil ?_
    refine n_then ?_
    refine c_ret ?_
    refine fin1 (by simp) rfl rfl ?_
    exact ⟨_, rfl, hF19, .inl ⟨rfl, by omega, hr5⟩⟩
  ·
    have ne21 : r ≠ gN7 := Nat.ne_of_lt (Nat.lt_of_lt_of_le hr.lt hgN9)
    have ne22 := row_ne_new hw hgN9
    have nw23 := Nat.le_trans hF0.size hgN9
    have ne24 : r ≠ gE8 := Nat.ne_of_lt (Nat.lt_of_lt_of_le hr.lt hgE10)
    have ne25 := row_ne_new hw hgE10
    have nw26 := Nat.le_trans hF0.size hgE10
    clear hr
    replace hw := hw.fr1 f15 hrg
    have hF27 := hF0.thenIn f15 (by simp)
    have rz28 := row_z hbN11
    refine s_y (y_index (r := 0) Tryd.underlying22 T.ty5 rfl rfl rfl (by omega) (by omega) (by omega)) rfl rfl ?_
    refine s_y (y_ldB (v := .int .u8 (↑(0 : UInt8).toNat)) T.ty5 rfl hbN11 rfl) rfl rfl ?_
    refine s_y (y_convb_i64 Tryd.underlying5 Tryd.underlying3 rfl) rfl rfl ?_
    refine s_y (y_assign rfl) rfl rfl ?_
    refine s_nil ?_
    refine n_then ?_
    refine c_ret ?_
    refine fin1 (by simp) rfl rfl ?_
    exact ⟨_, rfl, hF27, .inr ⟨rfl, by omega, _, by omega, hr12, hfa13⟩⟩

set_option maxHeartbeats 8000000 in
set_option maxRecDepth 100000 in
theorem version_ok (r v : Nat) (A : Option Addr) (g o c : Nat) (b : By) (w : World) (hb : b.length ≤ 9223372036854775807) (hc : b.length ≤ c) (hrg : b.map bv = [] ∨ g ≠ r) (hr : Blk w r 99 [.slice A b.length c, .int .i64 (↑(0 : Nat)), .nilIface]) (hw : Row w A g o b.length 1 (b.map bv)) :
    Calls Tryd.prog 59 #[.pointer (some ⟨r, 0, none⟩), .int .i64 ↑v] w fun e w' => e = .returned (.tuple #[]) ∧ Fr [r] w w' ∧ ((verL b v = .no ∧ 1 ≤ b.length ∧ Blk w' r 99 [.slice A b.length c, .int .i64 (↑(1 : Nat)), .nilIface]) ∨ (∃ (at' gE : Nat), w.heap.size ≤ gE ∧ Blk w' r 99 [.slice A b.length c, .int .i64 ↑at', .iface 136 (.pointer (some ⟨gE, 0, none⟩))] ∧ FaultAt w' 138 136 39 gE (verL b v))) := by
  refine c_start (args := [.pointer (some ⟨r, 0, none⟩), .int .i64 ↑v]) Tryd.func59 rfl rfl rfl ?_
  try simp only [enum, Nat.zero_add, Nat.reduceAdd]
  have hF0 := Fr.refl [r] w
  have lt_hr := hr.lt
  have lt_hw := hw.lt'
  refine c_seq ?_
  refine c_region ?_
  refine s_y (y_move rfl) rfl rfl ?_
  refine s_d (d_callR T.ent60 (vs := [.pointer (some ⟨r, 0, none⟩)]) rfl (one_ok r 0 A g o c b _ (by omega) hb hc hrg hr hw) (by rintro e w' ⟨_, rfl, -⟩; exact ⟨_, rfl⟩)) rfl rfl ?_
  rintro v11 w9 ⟨x8, hv12, f10, ha13⟩
  obtain rfl := ret_inj hv12
  rcases ha13 with ⟨rfl, hlt1, hr2⟩ | ⟨rfl, hge3, gE4, hg5, hr6, hfa7⟩
  ·
    clear hr
    replace hw := hw.fr1 f10 hrg
    have hF14 := hF0.thenIn f10 (by simp)
    refine s_y (y_assign rfl) rfl rfl ?_
    refine s_nil ?_
    refine n_then ?_
    refine c_seq ?_
    refine c_region ?_
    refine s_y (y_move rfl) rfl rfl ?_
    refine s_y (y_nilCheck rfl) rfl rfl ?_
    refine s_y (y_field rfl T.fld99_2 rfl) rfl rfl ?_
    refine s_y (y_ldB T.ty31 rfl hr2 rfl) rfl rfl ?_
    refine s_y (y_ii Tryd.underlying31 rfl) rfl rfl ?_
    refine s_y (y_move rfl) rfl rfl ?_
    refine s_gy (y_move rfl) ⟨_, _, _, _, rfl, rfl, rfl, rfl⟩ rfl ?_
    refine s_gy (y_move rfl) ⟨_, _, _, _, rfl, rfl, rfl, rfl⟩ rfl ?_
    refine s_gy (y_neq rfl rfl rfl) ⟨_, _, _, _, rfl, rfl, rfl, rfl⟩ rfl ?_
    refine s_y (y_pick rfl rfl rfl rfl) rfl rfl ?_
    refine s_nil ?_
    refine n_then ?_
    refine c_cond rfl ?_ ?_
    · intro h15
      replace h15 : ((↑(at8 b 0)) : Int) ≠ ↑v := of_decide_eq_true h15
      refine c_region ?_
      refine s_y (y_move rfl) rfl rfl ?_
      refine s_y (y_iface rfl Tryd.underlying39 rfl) rfl rfl ?_
      refine s_d (d_callR T.ent61 (vs := [.pointer (some ⟨r, 0, none⟩), .int .i64 0, .iface 39 (.int .i64 70)]) rfl (fail_1 r (1 : Nat) 0 70 A b.length c _ hr2) (by rintro e w' ⟨_, rfl, -⟩; exact ⟨_, rfl⟩)) rfl rfl ?_
      rintro v22 w20 ⟨gE16, hv23, f21, hg17, hr18, hfa19⟩
      obtain rfl := ret_inj hv23
      have ne24 := row_ne_new hw hg17
      have ne25 : r ≠ gE16 := Nat.ne_of_lt (Nat.lt_of_lt_of_le hr2.lt hg17)
      have nw26 := Nat.le_trans hF14.size hg17
      replace hw := hw.fr1 f21 hrg
      clear hr2
      have hF27 := hF14.thenIn f21 (by simp)
      refine s_nil ?_
      refine fin0 (by simp) rfl  ?_
      exact ⟨rfl, hF27, .inr ⟨_, _, by omega, hr18, by rw [ver_v b v (by omega) (by omega)]; exact hfa19⟩⟩
    · intro h28
      replace h28 : ((↑(at8 b 0)) : Int) = ↑v := Decidable.not_not.1 (of_decide_eq_false h28)
      refine c_skip ?_
      refine fin0 (by simp) rfl  ?_
      exact ⟨rfl, hF14, .inl ⟨ver_k b v (by omega) (by omega), by omega, hr2⟩⟩
  ·
    have ne29 : r ≠ gE4 := Nat.ne_of_lt (Nat.lt_of_lt_of_le hr.lt hg5)
    have ne30 := row_ne_new hw hg5
    have nw31 := Nat.le_trans hF0.size hg5
    clear hr
    replace hw := hw.fr1 f10 hrg
    have hF32 := hF0.thenIn f10 (by simp)
    refine s_y (y_assign rfl) rfl rfl ?_
    refine s_nil ?_
    refine n_then ?_
    refine c_seq ?_
    refine c_region ?_
    refine s_y (y_move rfl) rfl rfl ?_
    refine s_y (y_nilCheck rfl) rfl rfl ?_
    refine s_y (y_field rfl T.fld99_2 rfl) rfl rfl ?_
    refine s_y (y_ldB T.ty31 rfl hr6 rfl) rfl rfl ?_
    refine s_y (y_in Tryd.underlying31 rfl rfl) rfl rfl ?_
    refine s_y (y_move rfl) rfl rfl ?_
    refine s_skip ⟨_, _, _, _, rfl, rfl, rfl, rfl⟩ rfl ?_
    refine s_skip ⟨_, _, _, _, rfl, rfl, rfl, rfl⟩ rfl ?_
    refine s_skip ⟨_, _, _, _, rfl, rfl, rfl, rfl⟩ rfl ?_
    refine s_y (y_pick rfl rfl rfl rfl) rfl rfl ?_
    refine s_nil ?_
    refine n_then ?_
    refine c_false rfl ?_
    refine c_skip ?_
    refine fin0 (by simp) rfl  ?_
    exact ⟨rfl, hF32, .inr ⟨_, _, by omega, hr6, by rw [ver_s b v (by omega)]; exact hfa7⟩⟩

set_option maxHeartbeats 8000000 in
set_option maxRecDepth 100000 in
theorem text_err (r at_ gE : Nat) (most : Nat) (A : Option Addr) (g o c : Nat) (b : By) (w : World) (hb : b.length ≤ 9223372036854775807) (hr : Blk w r 99 [.slice A b.length c, .int .i64 ↑at_, .iface 136 (.pointer (some ⟨gE, 0, none⟩))]) :
    Calls Tryd.prog 75 #[.pointer (some ⟨r, 0, none⟩), .int .i64 ↑most] w fun e w' => e = .returned (.string ⟨([] : By).toArray⟩) ∧ Fr [] w w' := by
  refine c_start (args := [.pointer (some ⟨r, 0, none⟩), .int .i64 ↑most]) Tryd.func75 rfl rfl rfl ?_
  try simp only [enum, Nat.zero_add, Nat.reduceAdd]
  have hF0 := Fr.refl [] w
  have lt_hr := hr.lt
  refine c_seq ?_
  refine c_region ?_
  refine s_y (y_assign rfl) rfl rfl ?_
  refine s_nil ?_
  refine n_then ?_
  refine c_seq ?_
  refine c_region ?_
  refine s_y (y_move rfl) rfl rfl ?_
  refine s_y (y_nilCheck rfl) rfl rfl ?_
  refine s_y (y_field rfl T.fld99_1 rfl) rfl rfl ?_
  refine s_y (y_ldB T.ty3 rfl hr rfl) rfl rfl ?_
  refine s_y (y_assign rfl) rfl rfl ?_
  refine s_nil ?_
  refine n_then ?_
  refine c_seq ?_
  refine c_region ?_
  refine s_y (y_move rfl) rfl rfl ?_
  refine s_d (d_callR T.ent60 (vs := [.pointer (some ⟨r, 0, none⟩)]) rfl (one_err r at_ gE A g o c b _ hb hr) (by rintro e w' ⟨rfl, -⟩; exact ⟨_, rfl⟩)) rfl rfl ?_
  rintro v3 w1 ⟨hv4, f2⟩
  obtain rfl := ret_inj hv4
  replace hr := hr.fr0 f2
  have hF5 := hF0.then0 f2
  refine s_y (y_assign rfl) rfl rfl ?_
  refine s_nil ?_
  refine n_then ?_
  refine c_seq ?_
  refine c_seq ?_
  refine c_region ?_
  refine s_y (y_move rfl) rfl rfl ?_
  refine s_y (y_nilCheck rfl) rfl rfl ?_
  refine s_y (y_field rfl T.fld99_2 rfl) rfl rfl ?_
  refine s_y (y_ldB T.ty31 rfl hr rfl) rfl rfl ?_
  refine s_y (y_in Tryd.underlying31 rfl rfl) rfl rfl ?_
  refine s_y (y_move rfl) rfl rfl ?_
  refine s_skip ⟨_, _, _, _, rfl, rfl, rfl, rfl⟩ rfl ?_
  refine s_skip ⟨_, _, _, _, rfl, rfl, rfl, rfl⟩ rfl ?_
  refine s_skip ⟨_, _, _, _, rfl, rfl, rfl, rfl⟩ rfl ?_
  refine s_skip ⟨_, _, _, _, rfl, rfl, rfl, rfl⟩ rfl ?_
  refine s_skip ⟨_, _, _, _, rfl, rfl, rfl, rfl⟩ rfl ?_
  refine s_skip ⟨_, _, _, _, rfl, rfl, rfl, rfl⟩ rfl ?_
  refine s_skip ⟨_, _, _, _, rfl, rfl, rfl, rfl⟩ rfl ?_
  refine s_y (y_pick rfl rfl rfl rfl) rfl rfl ?_
  refine s_nil ?_
  refine n_then ?_
  refine c_false rfl ?_
  refine c_skip ?_
  refine n_then ?_
  refine c_seq ?_
  refine c_seq ?_
  refine c_region ?_
  refine s_y (y_move rfl) rfl rfl ?_
  refine s_y (y_nilCheck rfl) rfl rfl ?_
  refine s_y (y_field rfl T.fld99_2 rfl) rfl rfl ?_
  refine s_y (y_ldB T.ty31 rfl hr rfl) rfl rfl ?_
  refine s_y (y_inx Tryd.underlying31 rfl rfl) rfl rfl ?_
  refine s_nil ?_
  refine n_then ?_
  refine c_true rfl ?_
  refine c_seq ?_
  refine c_region ?_
  refine s_y (y_assign rfl) rfl rfl ?_
  refine s_nil ?_
  refine n_then ?_
  refine c_ret ?_
  refine r_then ?_
  refine fin1 (by simp) rfl rfl ?_
  exact ⟨rfl, hF5⟩

set_option maxHeartbeats 8000000 in
set_option maxRecDepth 100000 in
theorem text_ok (r at_ most : Nat) (A : Option Addr) (g o c : Nat) (b : By) (w : World) (hat : at_ ≤ b.length) (hm : most ≤ 255) (hb : b.length ≤ 9223372036854775807) (hc : b.length ≤ c) (hrg : b.map bv = [] ∨ g ≠ r) (hr : Blk w r 99 [.slice A b.length c, .int .i64 ↑at_, .nilIface]) (hw : Row w A g o b.length 1 (b.map bv)) :
    Calls Tryd.prog 75 #[.pointer (some ⟨r, 0, none⟩), .int .i64 ↑most] w fun e w' => ∃ s', e = .returned (.string ⟨s'.toArray⟩) ∧ Fr [r] w w' ∧ (((textL b at_ most).2.2 = .no ∧ s' = (textL b at_ most).1 ∧ Blk w' r 99 [.slice A b.length c, .int .i64 (↑(textL b at_ most).2.1), .nilIface]) ∨ (∃ (at' gE : Nat), w.heap.size ≤ gE ∧ Blk w' r 99 [.slice A b.length c, .int .i64 ↑at', .iface 136 (.pointer (some ⟨gE, 0, none⟩))] ∧ FaultAt w' 138 136 39 gE (textL b at_ most).2.2)) := by
  refine c_start (args := [.pointer (some ⟨r, 0, none⟩), .int .i64 ↑most]) Tryd.func75 rfl rfl rfl ?_
  try simp only [enum, Nat.zero_add, Nat.reduceAdd]
  have hF0 := Fr.refl [r] w
  have lt_hr := hr.lt
  have lt_hw := hw.lt'
  refine c_seq ?_
  refine c_region ?_
  refine s_y (y_assign rfl) rfl rfl ?_
  refine s_nil ?_
  refine n_then ?_
  refine c_seq ?_
  refine c_region ?_
  refine s_y (y_move rfl) rfl rfl ?_
  refine s_y (y_nilCheck rfl) rfl rfl ?_
  refine s_y (y_field rfl T.fld99_1 rfl) rfl rfl ?_
  refine s_y (y_ldB T.ty3 rfl hr rfl) rfl rfl ?_
  refine s_y (y_assign rfl) rfl rfl ?_
  refine s_nil ?_
  refine n_then ?_
  refine c_seq ?_
  refine c_region ?_
  refine s_y (y_move rfl) rfl rfl ?_
  refine s_d (d_callR T.ent60 (vs := [.pointer (some ⟨r, 0, none⟩)]) rfl (one_ok r at_ A g o c b _ (by omega) hb hc hrg hr hw) (by rintro e w' ⟨_, rfl, -⟩; exact ⟨_, rfl⟩)) rfl rfl ?_
  rintro v11 w9 ⟨x8, hv12, f10, ha13⟩
  obtain rfl := ret_inj hv12
  rcases ha13 with ⟨rfl, hlt1, hr2⟩ | ⟨rfl, hge3, gE4, hg5, hr6, hfa7⟩
  ·
    clear hr
    replace hw := hw.fr1 f10 hrg
    have hF14 := hF0.thenIn f10 (by simp)
    refine s_y (y_assign rfl) rfl rfl ?_
    refine s_nil ?_
    refine n_then ?_
    refine c_seq ?_
    refine c_seq ?_
    refine c_region ?_
    refine s_y (y_move rfl) rfl rfl ?_
    refine s_y (y_nilCheck rfl) rfl rfl ?_
    refine s_y (y_field rfl T.fld99_2 rfl) rfl rfl ?_
    refine s_y (y_ldB T.ty31 rfl hr2 rfl) rfl rfl ?_
    refine s_y (y_ii Tryd.underlying31 rfl) rfl rfl ?_
    refine s_y (y_move rfl) rfl rfl ?_
    refine s_gy (y_move rfl) ⟨_, _, _, _, rfl, rfl, rfl, rfl⟩ rfl ?_
    refine s_gy (y_lss rfl rfl rfl) ⟨_, _, _, _, rfl, rfl, rfl, rfl⟩ rfl ?_
    refine s_gy (y_move rfl) ⟨_, _, _, _, rfl, rfl, rfl, rfl⟩ rfl ?_
    refine wl_bool (decide (((↑(at8 b at_)) : Int) < 1)) ?_ ?_
    · intro hb15
      rw [hb15]
      have hp16 : ((↑(at8 b at_)) : Int) < 1 := of_decide_eq_true hb15
      clear hb15
      refine s_skip ⟨_, _, _, _, rfl, rfl, rfl, rfl⟩ rfl ?_
      refine s_skip ⟨_, _, _, _, rfl, rfl, rfl, rfl⟩ rfl ?_
      refine s_skip ⟨_, _, _, _, rfl, rfl, rfl, rfl⟩ rfl ?_
      refine s_gy (y_pick rfl rfl rfl rfl) ⟨_, _, _, _, rfl, rfl, rfl, rfl⟩ rfl ?_
      refine s_y (y_pick rfl rfl rfl rfl) rfl rfl ?_
      refine s_nil ?_
      refine n_then ?_
      refine c_true rfl ?_
      refine c_region ?_
      refine s_y (y_move rfl) rfl rfl ?_
      refine s_y (y_move rfl) rfl rfl ?_
      refine s_y (y_iface rfl Tryd.underlying39 rfl) rfl rfl ?_
      refine s_d (d_callR T.ent61 (vs := [.pointer (some ⟨r, 0, none⟩), .int .i64 ↑at_, .iface 39 (.int .i64 72)]) rfl (fail_1 r (at_ + 1) ↑at_ 72 A b.length c _ hr2) (by rintro e w' ⟨_, rfl, -⟩; exact ⟨_, rfl⟩)) rfl rfl ?_
      rintro v23 w21 ⟨gE17, hv24, f22, hg18, hr19, hfa20⟩
      obtain rfl := ret_inj hv24
      have ne25 := row_ne_new hw hg18
      have ne26 : r ≠ gE17 := Nat.ne_of_lt (Nat.lt_of_lt_of_le hr2.lt hg18)
      have nw27 := Nat.le_trans hF14.size hg18
      replace hw := hw.fr1 f22 hrg
      clear hr2
      have hF28 := hF14.thenIn f22 (by simp)
      refine s_nil ?_
      refine n_then ?_
      refine c_seq ?_
      refine c_seq ?_
      refine c_region ?_
      refine s_y (y_move rfl) rfl rfl ?_
      refine s_y (y_nilCheck rfl) rfl rfl ?_
      refine s_y (y_field rfl T.fld99_2 rfl) rfl rfl ?_
      refine s_y (y_ldB T.ty31 rfl hr19 rfl) rfl rfl ?_
      refine s_y (y_inx Tryd.underlying31 rfl rfl) rfl rfl ?_
      refine s_nil ?_
      refine n_then ?_
      refine c_true rfl ?_
      refine c_seq ?_
      refine c_region ?_
      refine s_y (y_assign rfl) rfl rfl ?_
      refine s_nil ?_
      refine n_then ?_
      refine c_ret ?_
      refine r_then ?_
      refine fin1 (by simp) rfl rfl ?_
      have ht : textL b at_ most = ([], 0, .one fiveS ↑at_ 72) := by first | exact text_s b at_ most (by omega) | exact text_w b at_ most (by omega) (by omega) | exact text_t b at_ most (by omega) (by omega) (by omega)
      exact ⟨_, rfl, hF28, .inr ⟨_, _, by omega, hr19, by rw [ht]; exact hfa20⟩⟩
    · intro hb15
      rw [hb15]
      have hp29 : ¬ (((↑(at8 b at_)) : Int) < 1) := of_decide_eq_false hb15
      clear hb15
      refine s_gy (y_move rfl) ⟨_, _, _, _, rfl, rfl, rfl, rfl⟩ rfl ?_
      refine s_gy (y_move rfl) ⟨_, _, _, _, rfl, rfl, rfl, rfl⟩ rfl ?_
      refine s_gy (y_gtr rfl rfl rfl) ⟨_, _, _, _, rfl, rfl, rfl, rfl⟩ rfl ?_
      refine s_gy (y_pick rfl rfl rfl rfl) ⟨_, _, _, _, rfl, rfl, rfl, rfl⟩ rfl ?_
      refine s_y (y_pick rfl rfl rfl rfl) rfl rfl ?_
      refine s_nil ?_
      refine n_then ?_
      refine c_cond rfl ?_ ?_
      · intro h30
        replace h30 : (↑most : Int) < (↑(at8 b at_)) := of_decide_eq_true h30
        refine c_region ?_
        refine s_y (y_move rfl) rfl rfl ?_
        refine s_y (y_move rfl) rfl rfl ?_
        refine s_y (y_iface rfl Tryd.underlying39 rfl) rfl rfl ?_
        refine s_d (d_callR T.ent61 (vs := [.pointer (some ⟨r, 0, none⟩), .int .i64 ↑at_, .iface 39 (.int .i64 72)]) rfl (fail_1 r (at_ + 1) ↑at_ 72 A b.length c _ hr2) (by rintro e w' ⟨_, rfl, -⟩; exact ⟨_, rfl⟩)) rfl rfl ?_
        rintro v37 w35 ⟨gE31, hv38, f36, hg32, hr33, hfa34⟩
        obtain rfl := ret_inj hv38
        have ne39 := row_ne_new hw hg32
        have ne40 : r ≠ gE31 := Nat.ne_of_lt (Nat.lt_of_lt_of_le hr2.lt hg32)
        have nw41 := Nat.le_trans hF14.size hg32
        replace hw := hw.fr1 f36 hrg
        clear hr2
        have hF42 := hF14.thenIn f36 (by simp)
        refine s_nil ?_
        refine n_then ?_
        refine c_seq ?_
        refine c_seq ?_
        refine c_region ?_
        refine s_y (y_move rfl) rfl rfl ?_
        refine s_y (y_nilCheck rfl) rfl rfl ?_
        refine s_y (y_field rfl T.fld99_2 rfl) rfl rfl ?_
        refine s_y (y_ldB T.ty31 rfl hr33 rfl) rfl rfl ?_
        refine s_y (y_inx Tryd.underlying31 rfl rfl) rfl rfl ?_
        refine s_nil ?_
        refine n_then ?_
        refine c_true rfl ?_
        refine c_seq ?_
        refine c_region ?_
        refine s_y (y_assign rfl) rfl rfl ?_
        refine s_nil ?_
        refine n_then ?_
        refine c_ret ?_
        refine r_then ?_
        refine fin1 (by simp) rfl rfl ?_
        have ht : textL b at_ most = ([], 0, .one fiveS ↑at_ 72) := by first | exact text_s b at_ most (by omega) | exact text_w b at_ most (by omega) (by omega) | exact text_t b at_ most (by omega) (by omega) (by omega)
        exact ⟨_, rfl, hF42, .inr ⟨_, _, by omega, hr33, by rw [ht]; exact hfa34⟩⟩
      · intro h43
        replace h43 : ¬ ((↑most : Int) < (↑(at8 b at_))) := of_decide_eq_false h43
        refine c_skip ?_
        refine n_then ?_
        refine c_seq ?_
        refine c_seq ?_
        refine c_region ?_
        refine s_y (y_move rfl) rfl rfl ?_
        refine s_y (y_nilCheck rfl) rfl rfl ?_
        refine s_y (y_field rfl T.fld99_2 rfl) rfl rfl ?_
        refine s_y (y_ldB T.ty31 rfl hr2 rfl) rfl rfl ?_
        refine s_y (y_iix Tryd.underlying31 rfl) rfl rfl ?_
        refine s_nil ?_
        refine n_then ?_
        refine c_false rfl ?_
        refine c_skip ?_
        refine n_then ?_
        refine c_seq ?_
        refine c_region ?_
        have hm8 := at8_lt b at_
        refine s_y (y_move rfl) rfl rfl ?_
        refine s_y (y_move rfl) rfl rfl ?_
        refine s_d (d_callR T.ent63 (vs := [.pointer (some ⟨r, 0, none⟩), .int .i64 (↑(at8 b at_))]) rfl (take_ok r (at_ + 1) (at8 b at_) A g o c b _ (by omega) (by omega) hb hc hrg hr2 hw) (by rintro e w' ⟨_, _, rfl, -⟩; exact ⟨_, rfl⟩)) rfl rfl ?_
        rintro v59 w57 ⟨A44, c45, hv60, f58, ha61⟩
        obtain rfl := ret_inj hv60
        rcases ha61 with ⟨hlt46, rw47, hr48⟩ | ⟨hlt49, gN50, gE51, rfl, hgN52, hgE53, hbN54, hr55, hfa56⟩
        ·
          replace hw := hw.fr1 f58 hrg
          clear hr2
          have hF62 := hF14.thenIn f58 (by simp)
          try have hgl63 : g < w.heap.size := lt_hw.resolve_left (bv_ne (by omega))
          refine s_y (y_bstr Tryd.underlying22 Tryd.underlying5 Tryd.underlying9 rfl (show Row _ _ _ _ _ _ (((b.drop (at_ + 1)).take (at8 b at_)).map bv) from rw47)) rfl rfl ?_
          refine s_y (y_assign rfl) rfl rfl ?_
          refine s_nil ?_
          refine n_then ?_
          refine c_ret ?_
          refine fin1 (by simp) rfl rfl ?_
          have ht := text_k b at_ most (by omega) (by omega) (by omega)
          exact ⟨_, rfl, hF62, .inl ⟨by rw [ht], by rw [ht], by rw [ht]; exact hr48⟩⟩
        ·
          have ne64 := row_ne_new hw hgN52
          have ne65 : r ≠ gN50 := Nat.ne_of_lt (Nat.lt_of_lt_of_le hr2.lt hgN52)
          have nw66 := Nat.le_trans hF14.size hgN52
          have ne67 := row_ne_new hw hgE53
          have ne68 : r ≠ gE51 := Nat.ne_of_lt (Nat.lt_of_lt_of_le hr2.lt hgE53)
          have nw69 := Nat.le_trans hF14.size hgE53
          replace hw := hw.fr1 f58 hrg
          clear hr2
          have hF70 := hF14.thenIn f58 (by simp)
          have rz71 := row_z hbN54
          refine s_y (y_bstr Tryd.underlying22 Tryd.underlying5 Tryd.underlying9 rfl (show Row _ _ _ _ _ _ ((List.replicate (at8 b at_) (0 : UInt8)).map bv) from rz71)) rfl rfl ?_
          refine s_y (y_assign rfl) rfl rfl ?_
          refine s_nil ?_
          refine n_then ?_
          refine c_ret ?_
          refine fin1 (by simp) rfl rfl ?_
          have ht : textL b at_ most = ([], 0, shortE b) := by first | exact text_s b at_ most (by omega) | exact text_w b at_ most (by omega) (by omega) | exact text_t b at_ most (by omega) (by omega) (by omega)
          exact ⟨_, rfl, hF70, .inr ⟨_, _, by omega, hr55, by rw [ht]; exact hfa56⟩⟩
  ·
    have ne72 : r ≠ gE4 := Nat.ne_of_lt (Nat.lt_of_lt_of_le hr.lt hg5)
    have ne73 := row_ne_new hw hg5
    have nw74 := Nat.le_trans hF0.size hg5
    clear hr
    replace hw := hw.fr1 f10 hrg
    have hF75 := hF0.thenIn f10 (by simp)
    refine s_y (y_assign rfl) rfl rfl ?_
    refine s_nil ?_
    refine n_then ?_
    refine c_seq ?_
    refine c_seq ?_
    refine c_region ?_
    refine s_y (y_move rfl) rfl rfl ?_
    refine s_y (y_nilCheck rfl) rfl rfl ?_
    refine s_y (y_field rfl T.fld99_2 rfl) rfl rfl ?_
    refine s_y (y_ldB T.ty31 rfl hr6 rfl) rfl rfl ?_
    refine s_y (y_in Tryd.underlying31 rfl rfl) rfl rfl ?_
    refine s_y (y_move rfl) rfl rfl ?_
    refine s_skip ⟨_, _, _, _, rfl, rfl, rfl, rfl⟩ rfl ?_
    refine s_skip ⟨_, _, _, _, rfl, rfl, rfl, rfl⟩ rfl ?_
    refine s_skip ⟨_, _, _, _, rfl, rfl, rfl, rfl⟩ rfl ?_
    refine s_skip ⟨_, _, _, _, rfl, rfl, rfl, rfl⟩ rfl ?_
    refine s_skip ⟨_, _, _, _, rfl, rfl, rfl, rfl⟩ rfl ?_
    refine s_skip ⟨_, _, _, _, rfl, rfl, rfl, rfl⟩ rfl ?_
    refine s_skip ⟨_, _, _, _, rfl, rfl, rfl, rfl⟩ rfl ?_
    refine s_y (y_pick rfl rfl rfl rfl) rfl rfl ?_
    refine s_nil ?_
    refine n_then ?_
    refine c_false rfl ?_
    refine c_skip ?_
    refine n_then ?_
    refine c_seq ?_
    refine c_seq ?_
    refine c_region ?_
    refine s_y (y_move rfl) rfl rfl ?_
    refine s_y (y_nilCheck rfl) rfl rfl ?_
    refine s_y (y_field rfl T.fld99_2 rfl) rfl rfl ?_
    refine s_y (y_ldB T.ty31 rfl hr6 rfl) rfl rfl ?_
    refine s_y (y_inx Tryd.underlying31 rfl rfl) rfl rfl ?_
    refine s_nil ?_
    refine n_then ?_
    refine c_true rfl ?_
    refine c_seq ?_
    refine c_region ?_
    refine s_y (y_assign rfl) rfl rfl ?_
    refine s_nil ?_
    refine n_then ?_
    refine c_ret ?_
    refine r_then ?_
    refine fin1 (by simp) rfl rfl ?_
    have ht : textL b at_ most = ([], 0, shortE b) := by first | exact text_s b at_ most (by omega) | exact text_w b at_ most (by omega) (by omega) | exact text_t b at_ most (by omega) (by omega) (by omega)
    exact ⟨_, rfl, hF75, .inr ⟨_, _, by omega, hr6, by rw [ht]; exact hfa7⟩⟩

end Go.Proofs.YtcnepgnfecoeoaaDoor
