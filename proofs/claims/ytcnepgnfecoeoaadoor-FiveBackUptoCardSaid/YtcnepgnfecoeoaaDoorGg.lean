/- Greetings and logins read and written; the law FiveBack: the walk. No condition. -/
import Derived.Test.YtcnepgnfecoeoaaDoorGe
import Derived.Test.YtcnepgnfecoeoaaDoorGd
import Derived.Test.YtcnepgnfecoeoaaDoorGMem4
import Derived.Test.YtcnepgnfecoeoaaDoorGgT
import Derived.Test.YtcnepgnfecoeoaaDoorProg
set_option linter.unusedVariables false
set_option linter.unusedSimpArgs false
namespace Go.Proofs.YtcnepgnfecoeoaaDoor
open Go Go.Proofs.GP Go.Proofs.Tryd
set_option maxHeartbeats 8000000 in
set_option maxRecDepth 100000 in
theorem sameI_ok (A : Option Addr) (g o c : Nat) (x : List Int) (A2 : Option Addr) (g2 o2 c2 : Nat) (y : List Int) (w : World) (hx : x.length ≤ 9223372036854775807) (hy : y.length ≤ 9223372036854775807) (hr : Row w A g o x.length 1 (x.map jv)) (hr2 : Row w A2 g2 o2 y.length 1 (y.map jv)) :
    Calls Tryd.prog 29 #[.slice A x.length c, .slice A2 y.length c2] w fun e w' => e = .returned (.bool (decide (x = y))) ∧ Fr [] w w' := by
  refine c_start (args := [.slice A x.length c, .slice A2 y.length c2]) Tryd.func29 rfl rfl rfl ?_
  try simp only [enum, Nat.zero_add, Nat.reduceAdd]
  have hF0 := Fr.refl [] w
  have lt_hr := hr.lt'
  have lt_hr2 := hr2.lt'
  refine c_seq ?_
  refine c_region ?_
  refine s_y (y_assign rfl) rfl rfl ?_
  refine s_nil ?_
  refine n_then ?_
  refine c_seq ?_
  refine c_seq ?_
  refine c_region ?_
  refine s_y (y_move rfl) rfl rfl ?_
  refine s_y (y_len Tryd.underlying53 rfl) rfl rfl ?_
  refine s_y (y_move rfl) rfl rfl ?_
  refine s_y (y_len Tryd.underlying53 rfl) rfl rfl ?_
  refine s_y (y_neq rfl rfl rfl) rfl rfl ?_
  refine s_nil ?_
  refine n_then ?_
  refine c_cond rfl ?_ ?_
  · intro h1
    replace h1 : (↑x.length : Int) ≠ ↑y.length := of_decide_eq_true h1
    refine c_seq ?_
    refine c_region ?_
    refine s_y (y_assign rfl) rfl rfl ?_
    refine s_nil ?_
    refine n_then ?_
    refine c_ret ?_
    refine r_then ?_
    refine fin1 (by simp) rfl rfl ?_
    exact ⟨by rw [decide_eq_false (by rintro rfl; first | omega | exact absurd rfl (by assumption))], hF0⟩
  · intro h2
    replace h2 : (↑x.length : Int) = ↑y.length := Decidable.not_not.1 (of_decide_eq_false h2)
    refine c_skip ?_
    refine n_then ?_
    refine c_seq ?_
    refine c_seq ?_
    refine c_region ?_
    refine s_y (y_assign rfl) rfl rfl ?_
    refine s_nil ?_
    refine n_then ?_
    refine c_block ?_
    refine c_loop (fun m a W => ∃ i : Nat, m = x.length - i ∧ GP.St 26 [(0, .slice A x.length c), (1, .slice A2 y.length c2), (5, .int .i64 ↑i)] a ∧ Fr [] w W ∧ Row W A g o x.length 1 (x.map jv) ∧ Row W A2 g2 o2 y.length 1 (y.map jv) ∧ (i ≤ x.length) ∧ (x.take i = y.take i)) (x.length) ?_ ?_
    · intro a ha
      exact ⟨0, rfl, ha.cut ⟨rfl, rfl, rfl, trivial⟩, hF0, hr, hr2, Nat.zero_le _, rfl⟩
    · rintro _ a W3 ⟨i, rfl, hst5, hF6, hr, hr2, hi, hall⟩
      refine (show Wc _ _ _ _ _ _ from ?_) a hst5
      clear hst5 a
      refine c_seq ?_
      refine c_seq ?_
      refine c_region ?_
      refine s_y (y_move rfl) rfl rfl ?_
      refine s_y (y_move rfl) rfl rfl ?_
      refine s_y (y_len Tryd.underlying53 rfl) rfl rfl ?_
      refine s_y (y_lss rfl rfl rfl) rfl rfl ?_
      refine s_nil ?_
      refine n_then ?_
      refine c_cond rfl ?_ ?_
      · intro h7
        replace h7 : (↑i : Int) < ↑x.length := of_decide_eq_true h7
        refine c_skip ?_
        refine n_then ?_
        refine c_seq ?_
        refine c_block ?_
        refine c_seq ?_
        refine dr_begin (fun W => Row W A g o x.length 1 (x.map jv) ∧ Row W A2 g2 o2 y.length 1 (y.map jv)) 9 (by kernel_rfl) ?_
        intro w8 f9
        replace hr := hr.fr0 f9
        replace hr2 := hr2.fr0 f9
        have hF10 := hF6.then0 f9
        refine dr_y 0 rfl (fun _ => y_move rfl) rfl (by kernel_rfl) (qp_then (qp_inb (qp_then (qp_then (qp_inb (qp_then qp_body)))))) (fun _ => ⟨hr, hr2⟩) ?_
        refine dr_y 1 rfl (fun _ => y_move rfl) rfl (by kernel_rfl) (qp_then (qp_inb (qp_then (qp_then (qp_inb (qp_then qp_body)))))) (fun _ => ⟨hr, hr2⟩) ?_
        refine dr_y 2 rfl (fun _ => y_index (r := o + i) Tryd.underlying53 T.ty3 rfl rfl (hr.addr (j := i) (by simp; omega)) (by omega) (by omega) (by omega)) rfl (by kernel_rfl) (qp_then (qp_inb (qp_then (qp_then (qp_inb (qp_then qp_body)))))) (fun _ => ⟨hr, hr2⟩) ?_
        refine dr_l 3 rfl (fun _ hS => by obtain ⟨q0, q1⟩ := hS; exact y_ldR (v := .int .i64 (x.getD i 0)) (j := i) T.ty3 rfl q0 (by first | rfl | omega) (map_at jv x i 0 (by omega))) rfl (by kernel_rfl) (qp_then (qp_inb (qp_then (qp_then (qp_inb (qp_then qp_body)))))) ⟨hr, hr2⟩ ?_
        refine dr_y 4 rfl (fun _ => y_move rfl) rfl (by kernel_rfl) (qp_then (qp_inb (qp_then (qp_then (qp_inb (qp_then qp_body)))))) (fun _ => ⟨hr, hr2⟩) ?_
        refine dr_y 5 rfl (fun _ => y_move rfl) rfl (by kernel_rfl) (qp_then (qp_inb (qp_then (qp_then (qp_inb (qp_then qp_body)))))) (fun _ => ⟨hr, hr2⟩) ?_
        refine dr_y 6 rfl (fun _ => y_index (r := o2 + i) Tryd.underlying53 T.ty3 rfl rfl (hr2.addr (j := i) (by simp; omega)) (by omega) (by omega) (by omega)) rfl (by kernel_rfl) (qp_then (qp_inb (qp_then (qp_then (qp_inb (qp_then qp_body)))))) (fun _ => ⟨hr, hr2⟩) ?_
        refine dr_l 7 rfl (fun _ hS => by obtain ⟨q0, q1⟩ := hS; exact y_ldR (v := .int .i64 (y.getD i 0)) (j := i) T.ty3 rfl q1 (by first | rfl | omega) (map_at jv y i 0 (by omega))) rfl (by kernel_rfl) (qp_then (qp_inb (qp_then (qp_then (qp_inb (qp_then qp_body)))))) ⟨hr, hr2⟩ ?_
        refine dr_y 8 rfl (fun _ => y_neq rfl rfl rfl) rfl (by kernel_rfl) (qp_then (qp_inb (qp_then (qp_then (qp_inb (qp_then qp_body)))))) (fun _ => ⟨hr, hr2⟩) ?_
        refine dr_done (by kernel_rfl) ?_
        refine n_then ?_
        refine c_cond rfl ?_ ?_
        · intro h11
          replace h11 : ((x.getD i 0) : Int) ≠ (y.getD i 0) := of_decide_eq_true h11
          refine c_seq ?_
          refine c_region ?_
          refine s_y (y_assign rfl) rfl rfl ?_
          refine s_nil ?_
          refine n_then ?_
          refine c_ret ?_
          refine r_inb ?_
          refine r_then ?_
          refine r_then ?_
          refine r_inb ?_
          refine r_then ?_
          refine fin1 (by simp) rfl rfl ?_
          exact ⟨by rw [decide_eq_false (by rintro rfl; first | omega | exact absurd rfl (by assumption))], hF10⟩
        · intro h12
          replace h12 : ((x.getD i 0) : Int) = (y.getD i 0) := Decidable.not_not.1 (of_decide_eq_false h12)
          refine c_skip ?_
          refine n_inb ?_
          refine n_then ?_
          refine c_region ?_
          refine s_y (y_move rfl) rfl rfl ?_
          refine s_y (y_add rfl rfl (wrI (by omega) (by omega))) rfl rfl ?_
          refine s_y (y_assign rfl) rfl rfl ?_
          refine s_nil ?_
          exact fun a ha => ⟨_, by omega, i + 1, rfl, ha.cut ⟨rfl, rfl, (iv (by omega)), trivial⟩, hF10, hr, hr2, by omega, (ints_succ x y i (by omega) (by omega) hall (by assumption))⟩
      · intro h13
        replace h13 : ¬ ((↑i : Int) < ↑x.length) := of_decide_eq_false h13
        refine c_exit ?_
        refine x_then ?_
        refine x_then ?_
        refine x_hit ?_
        refine n_then ?_
        refine c_seq ?_
        refine c_region ?_
        refine s_y (y_assign rfl) rfl rfl ?_
        refine s_nil ?_
        refine n_then ?_
        refine c_ret ?_
        refine fin1 (by simp) rfl rfl ?_
        obtain rfl : i = x.length := by omega
        exact ⟨by rw [decide_eq_true (ints_eq x y (by omega) hall)], hF6⟩

set_option maxHeartbeats 8000000 in
set_option maxRecDepth 100000 in
theorem isNil_ok  (w : World) :
    Calls Tryd.prog 92 #[.nilIface, .iface 39 (.int .i64 6)] w fun e w' => e = .returned (.bool false) ∧ Fr [] w w' := by
  refine c_start (args := [.nilIface, .iface 39 (.int .i64 6)]) Tryd.func92 rfl rfl rfl ?_
  try simp only [enum, Nat.zero_add, Nat.reduceAdd]
  have hF0 := Fr.refl [] w
  refine c_seq ?_
  refine c_region ?_
  refine s_y (y_assign rfl) rfl rfl ?_
  refine s_nil ?_
  refine n_then ?_
  refine c_seq ?_
  refine c_seq ?_
  refine c_region ?_
  refine s_y (y_move rfl) rfl rfl ?_
  refine s_y (y_ii Tryd.underlying31 rfl) rfl rfl ?_
  refine s_y (y_move rfl) rfl rfl ?_
  refine s_skip ⟨_, _, _, _, rfl, rfl, rfl, rfl⟩ rfl ?_
  refine s_skip ⟨_, _, _, _, rfl, rfl, rfl, rfl⟩ rfl ?_
  refine s_y (y_pick rfl rfl rfl rfl) rfl rfl ?_
  refine s_nil ?_
  refine n_then ?_
  refine c_true rfl ?_
  refine c_seq ?_
  refine c_region ?_
  refine s_y (y_move rfl) rfl rfl ?_
  refine s_y (y_move rfl) rfl rfl ?_
  refine s_y (y_ni Tryd.underlying31 rfl rfl) rfl rfl ?_
  refine s_y (y_assign rfl) rfl rfl ?_
  refine s_nil ?_
  refine n_then ?_
  refine c_ret ?_
  refine r_then ?_
  refine fin1 (by simp) rfl rfl ?_
  exact ⟨rfl, hF0⟩

set_option maxHeartbeats 8000000 in
set_option maxRecDepth 100000 in
theorem shortNil_ok  (w : World) :
    Calls Tryd.prog 83 #[.nilIface] w fun e w' => e = .returned (.bool false) ∧ Fr [] w w' := by
  refine c_start (args := [.nilIface]) Tryd.func83 rfl rfl rfl ?_
  try simp only [enum, Nat.zero_add, Nat.reduceAdd]
  have hF0 := Fr.refl [] w
  refine c_seq ?_
  refine c_region ?_
  refine s_y (y_assign rfl) rfl rfl ?_
  refine s_nil ?_
  refine n_then ?_
  refine c_seq ?_
  refine c_region ?_
  refine s_y (y_move rfl) rfl rfl ?_
  refine s_y (y_iface rfl Tryd.underlying39 rfl) rfl rfl ?_
  refine s_d (d_callR T.ent92 (vs := [.nilIface, .iface 39 (.int .i64 6)]) rfl (isNil_ok _) (by rintro e w' ⟨rfl, -⟩; exact ⟨_, rfl⟩)) rfl rfl ?_
  rintro v3 w1 ⟨hv4, f2⟩
  obtain rfl := ret_inj hv4
  have hF5 := hF0.then0 f2
  refine s_y (y_assign rfl) rfl rfl ?_
  refine s_nil ?_
  refine n_then ?_
  refine c_ret ?_
  refine fin1 (by simp) rfl rfl ?_
  exact ⟨rfl, hF5⟩

set_option maxHeartbeats 8000000 in
set_option maxRecDepth 100000 in
theorem login_ok (A : Option Addr) (g o c : Nat) (b : By) (w : World) (hb : b.length ≤ 9223372036854775807) (hc : b.length ≤ c) (hw : Row w A g o b.length 1 (b.map bv)) :
    Calls Tryd.prog 30 #[.slice A b.length c] w fun e w' => ∃ (u' p' : By) (v : Value) (x : Int), e = .returned (.tuple #[.string ⟨u'.toArray⟩, .string ⟨p'.toArray⟩, .int .i64 x, v]) ∧ Fr [] w w' ∧ (((loginL b).2.2.2 = .no ∧ v = .nilIface ∧ u' = (loginL b).1 ∧ p' = (loginL b).2.1 ∧ x = ↑(loginL b).2.2.1) ∨ (∃ gE, v = .iface 136 (.pointer (some ⟨gE, 0, none⟩)) ∧ u' = [] ∧ p' = [] ∧ x = 0 ∧ w.heap.size ≤ gE ∧ FaultAt w' 138 136 39 gE (loginL b).2.2.2)) := by
  refine c_start (args := [.slice A b.length c]) Tryd.func30 rfl rfl rfl ?_
  try simp only [enum, Nat.zero_add, Nat.reduceAdd]
  have hF0 := Fr.refl [] w
  have lt_hw := hw.lt'
  refine c_seq ?_
  refine c_region ?_
  refine s_y (y_assign rfl) rfl rfl ?_
  refine s_y (y_assign rfl) rfl rfl ?_
  refine s_y (y_assign rfl) rfl rfl ?_
  refine s_y (y_assign rfl) rfl rfl ?_
  refine s_nil ?_
  refine n_then ?_
  refine c_seq ?_
  refine c_region ?_
  refine s_y (y_move rfl) rfl rfl ?_
  refine s_y (y_build (vs := [(0, .slice A b.length c)]) rfl (by apply T.lit6)) rfl rfl ?_
  refine s_d (d_box (cs := [.slice A b.length c, .int .i64 0, .nilIface]) rfl rfl) rfl rfl ?_
  rintro _ w2 ⟨g1, rfl, hg5, b3, f4⟩
  have ne6 := row_ne_new hw hg5
  have nw7 := Nat.le_trans hF0.size hg5
  replace hw := hw.fr0 f4
  have hF8 := hF0.then0 f4
  refine s_y (y_assign rfl) rfl rfl ?_
  refine s_nil ?_
  refine n_then ?_
  refine c_seq ?_
  refine c_region ?_
  refine s_y (y_move rfl) rfl rfl ?_
  refine s_d (d_callR T.ent59 (vs := [.pointer (some ⟨g1, 0, none⟩), .int .i64 1]) rfl (version_ok g1 1 A g o c b _ hb hc ne6 b3 hw) (by rintro e w' ⟨rfl, -⟩; exact ⟨_, rfl⟩)) rfl rfl ?_
  rintro v19 w17 ⟨hv20, f18, ha21⟩
  obtain rfl := ret_inj hv20
  rcases ha21 with ⟨hv9, hlen10, hr11⟩ | ⟨at12, gE13, hg14, hr15, hfa16⟩
  ·
    replace hw := hw.fr1 f18 ne6
    clear b3
    have hF22 := hF8.thenNew f18 nw7
    refine s_nil ?_
    refine n_then ?_
    refine c_seq ?_
    refine c_region ?_
    refine s_y (y_move rfl) rfl rfl ?_
    refine s_d (d_callR T.ent75 (vs := [.pointer (some ⟨g1, 0, none⟩), .int .i64 255]) rfl (text_ok g1 1 255 A g o c b _ (by omega) (by omega) hb hc ne6 hr11 hw) (by rintro e w' ⟨_, rfl, -⟩; exact ⟨_, rfl⟩)) rfl rfl ?_
    rintro v34 w32 ⟨sv23, hv35, f33, ha36⟩
    obtain rfl := ret_inj hv35
    rcases ha36 with ⟨hno24, rfl, hr25⟩ | ⟨at26, gE27, hg28, hr29, hfa30⟩
    ·
      replace hw := hw.fr1 f33 ne6
      clear hr11
      have hF37 := hF22.thenNew f33 nw7
      have he31 := text_end b 1 255 hno24
      refine s_y (y_assign rfl) rfl rfl ?_
      refine s_nil ?_
      refine n_then ?_
      refine c_seq ?_
      refine c_region ?_
      refine s_y (y_move rfl) rfl rfl ?_
      refine s_d (d_callR T.ent75 (vs := [.pointer (some ⟨g1, 0, none⟩), .int .i64 255]) rfl (text_ok g1 (textL b 1 255).2.1 255 A g o c b _ (by omega) (by omega) hb hc ne6 hr25 hw) (by rintro e w' ⟨_, rfl, -⟩; exact ⟨_, rfl⟩)) rfl rfl ?_
      rintro v49 w47 ⟨sv38, hv50, f48, ha51⟩
      obtain rfl := ret_inj hv50
      rcases ha51 with ⟨hno39, rfl, hr40⟩ | ⟨at41, gE42, hg43, hr44, hfa45⟩
      ·
        replace hw := hw.fr1 f48 ne6
        clear hr25
        have hF52 := hF37.thenNew f48 nw7
        have he46 := text_end b (textL b 1 255).2.1 255 hno39
        refine s_y (y_assign rfl) rfl rfl ?_
        refine s_nil ?_
        refine n_then ?_
        refine c_seq ?_
        refine c_seq ?_
        refine c_region ?_
        refine s_y (y_move rfl) rfl rfl ?_
        refine s_y (y_nilCheck rfl) rfl rfl ?_
        refine s_y (y_field rfl T.fld99_2 rfl) rfl rfl ?_
        refine s_y (y_ldB T.ty31 rfl hr40 rfl) rfl rfl ?_
        refine s_y (y_iix Tryd.underlying31 rfl) rfl rfl ?_
        refine s_nil ?_
        refine n_then ?_
        refine c_false rfl ?_
        refine c_skip ?_
        refine n_then ?_
        refine c_seq ?_
        refine dr_begin (fun W => Row W A g o b.length 1 (b.map bv) ∧ Blk W g1 99 [.slice A b.length c, .int .i64 (↑(textL b (textL b 1 255).2.1 255).2.1), .nilIface]) 10 (by kernel_rfl) ?_
        intro w53 f54
        replace hw := hw.fr0 f54
        replace hr40 := hr40.fr0 f54
        have hF55 := hF52.then0 f54
        refine dr_y 0 rfl (fun _ => y_move rfl) rfl (by kernel_rfl) (qp_then qp_body) (fun _ => ⟨hw, hr40⟩) ?_
        refine dr_y 1 rfl (fun _ => y_move rfl) rfl (by kernel_rfl) (qp_then qp_body) (fun _ => ⟨hw, hr40⟩) ?_
        refine dr_y 2 rfl (fun _ => y_move rfl) rfl (by kernel_rfl) (qp_then qp_body) (fun _ => ⟨hw, hr40⟩) ?_
        refine dr_y 3 rfl (fun _ => y_nilCheck rfl) rfl (by kernel_rfl) (qp_then qp_body) (fun _ => ⟨hw, hr40⟩) ?_
        refine dr_y 4 rfl (fun _ => y_field rfl T.fld99_1 rfl) rfl (by kernel_rfl) (qp_then qp_body) (fun _ => ⟨hw, hr40⟩) ?_
        refine dr_l 5 rfl (fun _ hS => by obtain ⟨q0, q1⟩ := hS; exact y_ldB T.ty3 rfl q1 rfl) rfl (by kernel_rfl) (qp_then qp_body) ⟨hw, hr40⟩ ?_
        refine dr_y 6 rfl (fun _ => y_assign rfl) rfl (by kernel_rfl) (qp_then qp_body) (fun _ => ⟨hw, hr40⟩) ?_
        refine dr_y 7 rfl (fun _ => y_assign rfl) rfl (by kernel_rfl) (qp_then qp_body) (fun _ => ⟨hw, hr40⟩) ?_
        refine dr_y 8 rfl (fun _ => y_assign rfl) rfl (by kernel_rfl) (qp_then qp_body) (fun _ => ⟨hw, hr40⟩) ?_
        refine dr_y 9 rfl (fun _ => y_assign rfl) rfl (by kernel_rfl) (qp_then qp_body) (fun _ => ⟨hw, hr40⟩) ?_
        refine dr_done (by kernel_rfl) ?_
        refine n_then ?_
        refine c_ret ?_
        refine fin4 (by simp) rfl rfl rfl rfl rfl ?_
        have hp := login_k b hv9 hno24 hno39
        exact ⟨_, _, _, _, rfl, hF55, .inl ⟨by rw [hp], rfl, by rw [hp], by rw [hp], by rw [hp]⟩⟩
      ·
        have ne56 := row_ne_new hw hg43
        have ne57 : g1 ≠ gE42 := Nat.ne_of_lt (Nat.lt_of_lt_of_le hr25.lt hg43)
        have nw58 := Nat.le_trans hF37.size hg43
        replace hw := hw.fr1 f48 ne6
        clear hr25
        have hF59 := hF37.thenNew f48 nw7
        refine s_y (y_assign rfl) rfl rfl ?_
        refine s_nil ?_
        refine n_then ?_
        refine c_seq ?_
        refine c_seq ?_
        refine c_region ?_
        refine s_y (y_move rfl) rfl rfl ?_
        refine s_y (y_nilCheck rfl) rfl rfl ?_
        refine s_y (y_field rfl T.fld99_2 rfl) rfl rfl ?_
        refine s_y (y_ldB T.ty31 rfl hr44 rfl) rfl rfl ?_
        refine s_y (y_inx Tryd.underlying31 rfl rfl) rfl rfl ?_
        refine s_nil ?_
        refine n_then ?_
        refine c_true rfl ?_
        refine c_seq ?_
        refine dr_begin (fun W => Row W A g o b.length 1 (b.map bv) ∧ Blk W g1 99 [.slice A b.length c, .int .i64 ↑at41, .iface 136 (.pointer (some ⟨gE42, 0, none⟩))]) 8 (by kernel_rfl) ?_
        intro w60 f61
        replace hfa45 := hfa45.fr0 f61
        replace hw := hw.fr0 f61
        replace hr44 := hr44.fr0 f61
        have hF62 := hF59.then0 f61
        refine dr_y 0 rfl (fun _ => y_move rfl) rfl (by kernel_rfl) (qp_then (qp_then qp_body)) (fun _ => ⟨hw, hr44⟩) ?_
        refine dr_y 1 rfl (fun _ => y_nilCheck rfl) rfl (by kernel_rfl) (qp_then (qp_then qp_body)) (fun _ => ⟨hw, hr44⟩) ?_
        refine dr_y 2 rfl (fun _ => y_field rfl T.fld99_2 rfl) rfl (by kernel_rfl) (qp_then (qp_then qp_body)) (fun _ => ⟨hw, hr44⟩) ?_
        refine dr_l 3 rfl (fun _ hS => by obtain ⟨q0, q1⟩ := hS; exact y_ldB T.ty31 rfl q1 rfl) rfl (by kernel_rfl) (qp_then (qp_then qp_body)) ⟨hw, hr44⟩ ?_
        refine dr_y 4 rfl (fun _ => y_assign rfl) rfl (by kernel_rfl) (qp_then (qp_then qp_body)) (fun _ => ⟨hw, hr44⟩) ?_
        refine dr_y 5 rfl (fun _ => y_assign rfl) rfl (by kernel_rfl) (qp_then (qp_then qp_body)) (fun _ => ⟨hw, hr44⟩) ?_
        refine dr_y 6 rfl (fun _ => y_assign rfl) rfl (by kernel_rfl) (qp_then (qp_then qp_body)) (fun _ => ⟨hw, hr44⟩) ?_
        refine dr_y 7 rfl (fun _ => y_assign rfl) rfl (by kernel_rfl) (qp_then (qp_then qp_body)) (fun _ => ⟨hw, hr44⟩) ?_
        refine dr_done (by kernel_rfl) ?_
        refine n_then ?_
        refine c_ret ?_
        refine r_then ?_
        refine fin4 (by simp) rfl rfl rfl rfl rfl ?_
        have hp := login_2 b hv9 hno24 hfa45.ne
        exact ⟨_, _, _, 0, rfl, hF62, .inr ⟨_, rfl, rfl, rfl, rfl, by omega, by rw [hp]; exact hfa45⟩⟩
    ·
      have ne63 := row_ne_new hw hg28
      have ne64 : g1 ≠ gE27 := Nat.ne_of_lt (Nat.lt_of_lt_of_le hr11.lt hg28)
      have nw65 := Nat.le_trans hF22.size hg28
      replace hw := hw.fr1 f33 ne6
      clear hr11
      have hF66 := hF22.thenNew f33 nw7
      refine s_y (y_assign rfl) rfl rfl ?_
      refine s_nil ?_
      refine n_then ?_
      refine c_seq ?_
      refine c_region ?_
      refine s_y (y_move rfl) rfl rfl ?_
      refine s_d (d_callR T.ent75 (vs := [.pointer (some ⟨g1, 0, none⟩), .int .i64 255]) rfl (text_err g1 at26 gE27 255 A g o c b _ hb hr29) (by rintro e w' ⟨rfl, -⟩; exact ⟨_, rfl⟩)) rfl rfl ?_
      rintro v69 w67 ⟨hv70, f68⟩
      obtain rfl := ret_inj hv70
      replace hfa30 := hfa30.fr0 f68
      replace hw := hw.fr0 f68
      replace hr29 := hr29.fr0 f68
      have hF71 := hF66.then0 f68
      refine s_y (y_assign rfl) rfl rfl ?_
      refine s_nil ?_
      refine n_then ?_
      refine c_seq ?_
      refine c_seq ?_
      refine c_region ?_
      refine s_y (y_move rfl) rfl rfl ?_
      refine s_y (y_nilCheck rfl) rfl rfl ?_
      refine s_y (y_field rfl T.fld99_2 rfl) rfl rfl ?_
      refine s_y (y_ldB T.ty31 rfl hr29 rfl) rfl rfl ?_
      refine s_y (y_inx Tryd.underlying31 rfl rfl) rfl rfl ?_
      refine s_nil ?_
      refine n_then ?_
      refine c_true rfl ?_
      refine c_seq ?_
      refine dr_begin (fun W => Row W A g o b.length 1 (b.map bv) ∧ Blk W g1 99 [.slice A b.length c, .int .i64 ↑at26, .iface 136 (.pointer (some ⟨gE27, 0, none⟩))]) 8 (by kernel_rfl) ?_
      intro w72 f73
      replace hfa30 := hfa30.fr0 f73
      replace hw := hw.fr0 f73
      replace hr29 := hr29.fr0 f73
      have hF74 := hF71.then0 f73
      refine dr_y 0 rfl (fun _ => y_move rfl) rfl (by kernel_rfl) (qp_then (qp_then qp_body)) (fun _ => ⟨hw, hr29⟩) ?_
      refine dr_y 1 rfl (fun _ => y_nilCheck rfl) rfl (by kernel_rfl) (qp_then (qp_then qp_body)) (fun _ => ⟨hw, hr29⟩) ?_
      refine dr_y 2 rfl (fun _ => y_field rfl T.fld99_2 rfl) rfl (by kernel_rfl) (qp_then (qp_then qp_body)) (fun _ => ⟨hw, hr29⟩) ?_
      refine dr_l 3 rfl (fun _ hS => by obtain ⟨q0, q1⟩ := hS; exact y_ldB T.ty31 rfl q1 rfl) rfl (by kernel_rfl) (qp_then (qp_then qp_body)) ⟨hw, hr29⟩ ?_
      refine dr_y 4 rfl (fun _ => y_assign rfl) rfl (by kernel_rfl) (qp_then (qp_then qp_body)) (fun _ => ⟨hw, hr29⟩) ?_
      refine dr_y 5 rfl (fun _ => y_assign rfl) rfl (by kernel_rfl) (qp_then (qp_then qp_body)) (fun _ => ⟨hw, hr29⟩) ?_
      refine dr_y 6 rfl (fun _ => y_assign rfl) rfl (by kernel_rfl) (qp_then (qp_then qp_body)) (fun _ => ⟨hw, hr29⟩) ?_
      refine dr_y 7 rfl (fun _ => y_assign rfl) rfl (by kernel_rfl) (qp_then (qp_then qp_body)) (fun _ => ⟨hw, hr29⟩) ?_
      refine dr_done (by kernel_rfl) ?_
      refine n_then ?_
      refine c_ret ?_
      refine r_then ?_
      refine fin4 (by simp) rfl rfl rfl rfl rfl ?_
      have hp := login_1 b hv9 hfa30.ne
      exact ⟨_, _, _, 0, rfl, hF74, .inr ⟨_, rfl, rfl, rfl, rfl, by omega, by rw [hp]; exact hfa30⟩⟩
  ·
    have ne75 := row_ne_new hw hg14
    have ne76 : g1 ≠ gE13 := Nat.ne_of_lt (Nat.lt_of_lt_of_le b3.lt hg14)
    have nw77 := Nat.le_trans hF8.size hg14
    replace hw := hw.fr1 f18 ne6
    clear b3
    have hF78 := hF8.thenNew f18 nw7
    refine s_nil ?_
    refine n_then ?_
    refine c_seq ?_
    refine c_region ?_
    refine s_y (y_move rfl) rfl rfl ?_
    refine s_d (d_callR T.ent75 (vs := [.pointer (some ⟨g1, 0, none⟩), .int .i64 255]) rfl (text_err g1 at12 gE13 255 A g o c b _ hb hr15) (by rintro e w' ⟨rfl, -⟩; exact ⟨_, rfl⟩)) rfl rfl ?_
    rintro v81 w79 ⟨hv82, f80⟩
    obtain rfl := ret_inj hv82
    replace hfa16 := hfa16.fr0 f80
    replace hw := hw.fr0 f80
    replace hr15 := hr15.fr0 f80
    have hF83 := hF78.then0 f80
    refine s_y (y_assign rfl) rfl rfl ?_
    refine s_nil ?_
    refine n_then ?_
    refine c_seq ?_
    refine c_region ?_
    refine s_y (y_move rfl) rfl rfl ?_
    refine s_d (d_callR T.ent75 (vs := [.pointer (some ⟨g1, 0, none⟩), .int .i64 255]) rfl (text_err g1 at12 gE13 255 A g o c b _ hb hr15) (by rintro e w' ⟨rfl, -⟩; exact ⟨_, rfl⟩)) rfl rfl ?_
    rintro v86 w84 ⟨hv87, f85⟩
    obtain rfl := ret_inj hv87
    replace hfa16 := hfa16.fr0 f85
    replace hw := hw.fr0 f85
    replace hr15 := hr15.fr0 f85
    have hF88 := hF83.then0 f85
    refine s_y (y_assign rfl) rfl rfl ?_
    refine s_nil ?_
    refine n_then ?_
    refine c_seq ?_
    refine c_seq ?_
    refine c_region ?_
    refine s_y (y_move rfl) rfl rfl ?_
    refine s_y (y_nilCheck rfl) rfl rfl ?_
    refine s_y (y_field rfl T.fld99_2 rfl) rfl rfl ?_
    refine s_y (y_ldB T.ty31 rfl hr15 rfl) rfl rfl ?_
    refine s_y (y_inx Tryd.underlying31 rfl rfl) rfl rfl ?_
    refine s_nil ?_
    refine n_then ?_
    refine c_true rfl ?_
    refine c_seq ?_
    refine dr_begin (fun W => Row W A g o b.length 1 (b.map bv) ∧ Blk W g1 99 [.slice A b.length c, .int .i64 ↑at12, .iface 136 (.pointer (some ⟨gE13, 0, none⟩))]) 8 (by kernel_rfl) ?_
    intro w89 f90
    replace hfa16 := hfa16.fr0 f90
    replace hw := hw.fr0 f90
    replace hr15 := hr15.fr0 f90
    have hF91 := hF88.then0 f90
    refine dr_y 0 rfl (fun _ => y_move rfl) rfl (by kernel_rfl) (qp_then (qp_then qp_body)) (fun _ => ⟨hw, hr15⟩) ?_
    refine dr_y 1 rfl (fun _ => y_nilCheck rfl) rfl (by kernel_rfl) (qp_then (qp_then qp_body)) (fun _ => ⟨hw, hr15⟩) ?_
    refine dr_y 2 rfl (fun _ => y_field rfl T.fld99_2 rfl) rfl (by kernel_rfl) (qp_then (qp_then qp_body)) (fun _ => ⟨hw, hr15⟩) ?_
    refine dr_l 3 rfl (fun _ hS => by obtain ⟨q0, q1⟩ := hS; exact y_ldB T.ty31 rfl q1 rfl) rfl (by kernel_rfl) (qp_then (qp_then qp_body)) ⟨hw, hr15⟩ ?_
    refine dr_y 4 rfl (fun _ => y_assign rfl) rfl (by kernel_rfl) (qp_then (qp_then qp_body)) (fun _ => ⟨hw, hr15⟩) ?_
    refine dr_y 5 rfl (fun _ => y_assign rfl) rfl (by kernel_rfl) (qp_then (qp_then qp_body)) (fun _ => ⟨hw, hr15⟩) ?_
    refine dr_y 6 rfl (fun _ => y_assign rfl) rfl (by kernel_rfl) (qp_then (qp_then qp_body)) (fun _ => ⟨hw, hr15⟩) ?_
    refine dr_y 7 rfl (fun _ => y_assign rfl) rfl (by kernel_rfl) (qp_then (qp_then qp_body)) (fun _ => ⟨hw, hr15⟩) ?_
    refine dr_done (by kernel_rfl) ?_
    refine n_then ?_
    refine c_ret ?_
    refine r_then ?_
    refine fin4 (by simp) rfl rfl rfl rfl rfl ?_
    have hp := login_v b hfa16.ne
    exact ⟨_, _, _, 0, rfl, hF91, .inr ⟨_, rfl, rfl, rfl, rfl, by omega, by rw [hp]; exact hfa16⟩⟩

set_option maxHeartbeats 8000000 in
set_option maxRecDepth 100000 in
theorem putGreet_ok (A : Option Addr) (g o c : Nat) (ms : List Int) (w : World) (hm : ms.length ≤ 1048576) (hr : Row w A g o ms.length 1 (ms.map jv)) :
    Calls Tryd.prog 39 #[.slice A ms.length c] w fun e w' => ∃ A' g' n' c', e = .returned (.tuple #[.slice A' n' c', .int .i64 (putGreetL ms).2]) ∧ Fr [] w w' ∧ n' = (putGreetL ms).1.length ∧ Own w' A' g' n' c' 5 1 ((putGreetL ms).1.map bv) ∧ (A' = none ∨ w.heap.size ≤ g') := by
  refine c_start (args := [.slice A ms.length c]) Tryd.func39 rfl rfl rfl ?_
  try simp only [enum, Nat.zero_add, Nat.reduceAdd]
  have hF0 := Fr.refl [] w
  have lt_hr := hr.lt'
  refine c_seq ?_
  refine c_region ?_
  refine s_y (y_assign rfl) rfl rfl ?_
  refine s_y (y_assign rfl) rfl rfl ?_
  refine s_nil ?_
  refine n_then ?_
  refine c_seq ?_
  refine c_region ?_
  refine s_y (y_move rfl) rfl rfl ?_
  refine s_y (y_len Tryd.underlying53 rfl) rfl rfl ?_
  refine s_y (y_conv (r := ↑(lowI ↑ms.length).toNat) Tryd.underlying3 Tryd.underlying5 rfl (conv_lowI _)) rfl rfl ?_
  have hlit1 := (T.lit10 5 (↑(lowI ↑ms.length).toNat))
  refine s_d (d_bs2 hlit1 ⟨rfl, rfl, rfl, rfl, trivial⟩) rfl rfl ?_
  rintro _ w3 ⟨g2, rfl, hg6, b4, f5⟩
  have ne7 := row_ne_new hr hg6
  have nw8 := Nat.le_trans hF0.size hg6
  replace hr := hr.fr0 f5
  have hF9 := hF0.then0 f5
  have o10 := Own.of_blk (n := 2) (k := 1) b4 rfl (by decide)
  replace o10 : Own w3 (some ⟨g2, 0, none⟩) g2 2 2 5 1 ((greetP ms 0).map bv) := o10
  refine s_y (y_assign rfl) rfl rfl ?_
  refine s_nil ?_
  refine n_then ?_
  refine c_seq ?_
  refine c_seq ?_
  refine c_region ?_
  refine s_y (y_move rfl) rfl rfl ?_
  refine s_y (y_len Tryd.underlying53 rfl) rfl rfl ?_
  refine s_y (y_move rfl) rfl rfl ?_
  refine s_nil ?_
  refine n_then ?_
  refine c_block ?_
  refine c_loop (fun m a W => ∃ i : Nat, ∃ A' : Option Addr, ∃ g' : Nat, ∃ c' : Nat, m = ms.length - i ∧ GP.St 53 [(0, .slice A ms.length c), (4, .slice A' (greetP ms i).length c'), (16, .slice A ms.length c), (17, .int .i64 ↑ms.length), (18, .int .i64 ↑i)] a ∧ Fr [] w W ∧ Row W A g o ms.length 1 (ms.map jv) ∧ Own W A' g' (greetP ms i).length c' 5 1 ((greetP ms i).map bv) ∧ (i ≤ ms.length) ∧ ((ms.take i).all small = true) ∧ (A' = none ∨ g' ∈ ([] : List Nat) ∨ w.heap.size ≤ g')) (ms.length) ?_ ?_
  · intro a ha
    exact ⟨0, some ⟨g2, 0, none⟩, g2, 2, rfl, ha.cut ⟨rfl, rfl, rfl, rfl, rfl, trivial⟩, hF9, hr, o10, Nat.zero_le _, rfl, (.inr (.inr nw8))⟩
  · rintro _ a W11 ⟨i, A', g', c', rfl, hst13, hF14, hr, ho, hi, hall, wh⟩
    refine (show Wc _ _ _ _ _ _ from ?_) a hst13
    clear hst13 a
    refine c_seq ?_
    refine c_region ?_
    refine s_y (y_lss rfl rfl rfl) rfl rfl ?_
    refine s_nil ?_
    refine n_then ?_
    refine c_seq ?_
    refine c_cond rfl ?_ ?_
    · intro h15
      replace h15 : (↑i : Int) < ↑ms.length := of_decide_eq_true h15
      refine c_skip ?_
      refine n_then ?_
      refine c_seq ?_
      refine c_block ?_
      refine c_seq ?_
      refine c_region ?_
      refine s_y (y_index (r := o + i) Tryd.underlying53 T.ty3 rfl rfl (hr.addr (j := i) (by simp; omega)) (by omega) (by omega) (by omega)) rfl rfl ?_
      refine s_y (y_ldR (v := .int .i64 (ms.getD i 0)) (j := i) T.ty3 rfl hr (by first | rfl | omega) (map_at jv ms i 0 (by omega))) rfl rfl ?_
      refine s_y (y_assign rfl) rfl rfl ?_
      refine s_nil ?_
      refine n_then ?_
      refine c_seq ?_
      refine c_region ?_
      refine s_y (y_move rfl) rfl rfl ?_
      refine s_d (d_callR T.ent65 (vs := [.int .i64 (ms.getD i 0)]) rfl (byteOf_ok (ms.getD i 0) _) (by rintro e w' ⟨rfl, -⟩; exact ⟨_, rfl⟩)) rfl rfl ?_
      rintro v18 w16 ⟨hv19, f17⟩
      obtain rfl := ret_inj hv19
      replace hr := hr.fr0 f17
      replace ho := ho.fr0 f17
      have hF20 := hF14.then0 f17
      refine s_y (y_move rfl) rfl rfl ?_
      refine s_y (y_extract rfl rfl) rfl rfl ?_
      refine s_y (y_extract rfl rfl) rfl rfl ?_
      refine s_y (y_assign rfl) rfl rfl ?_
      refine s_y (y_assign rfl) rfl rfl ?_
      refine s_nil ?_
      refine n_then ?_
      refine c_seq ?_
      refine c_seq ?_
      refine c_region ?_
      refine s_y (y_move rfl) rfl rfl ?_
      refine s_y (y_not rfl rfl) rfl rfl ?_
      refine s_nil ?_
      refine n_then ?_
      refine c_cond rfl ?_ ?_
      · intro h21
        replace h21 : small (ms.getD i 0) = false := by simpa using h21
        refine c_seq ?_
        refine c_region ?_
        refine s_y (y_assign rfl) rfl rfl ?_
        refine s_y (y_assign rfl) rfl rfl ?_
        refine s_nil ?_
        refine n_then ?_
        refine c_ret ?_
        refine r_then ?_
        refine r_inb ?_
        refine r_then ?_
        refine r_then ?_
        refine r_inb ?_
        refine r_then ?_
        refine fin2 (by simp) rfl rfl rfl ?_
        have hp : putGreetL ms = ([], 2) := by first | exact pg_s ms i (by omega) (by assumption) | exact pg_n ms hall.ne | exact pg_l ms hall (by omega)
        exact ⟨none, 0, 0, 0, by rw [hp], hF20, by rw [hp]; rfl, by rw [hp]; exact Own.nil _ _ _ _, .inl rfl⟩
      · intro h22
        replace h22 : small (ms.getD i 0) = true := by simpa using h22
        refine c_skip ?_
        refine n_then ?_
        refine c_region ?_
        have hple := greetP_le ms i
        refine s_y (y_move rfl) rfl rfl ?_
        refine s_y (y_move rfl) rfl rfl ?_
        have hlit23 := (T.lit13 (↑(lowI (ms.getD i 0)).toNat))
        refine s_d (d_bs2 hlit23 ⟨rfl, rfl, trivial⟩) rfl rfl ?_
        rintro _ w25 ⟨g24, rfl, hg28, b26, f27⟩
        have ne29 := row_ne_new hr hg28
        have ne30 := ho.ne_new hg28
        have nw31 := Nat.le_trans hF20.size hg28
        replace hr := hr.fr0 f27
        replace ho := ho.fr0 f27
        have hF32 := hF20.then0 f27
        have o33 := Own.of_blk (n := 1) (k := 1) b26 rfl (by decide)
        refine s_d (d_append Tryd.underlying22 T.ty5 T.app5 rfl ho rfl (src_row Tryd.underlying22 T.ty5 o33.row ()) (ones (by first | exact all_bv _ | exact all_wv _ | exact rfl | simp [all_bv, all_u32])) (by omega)) rfl rfl ?_
        rintro _ w37 ⟨A34, g35, c36, rfl, o38, f39, hat40⟩
        replace o38 : Own w37 A34 g35 ((greetP ms i).length + 1) c36 5 1 ((greetP ms (i + 1)).map bv) := (by rw [greetP_succ ms i (by omega)]; exact o38)
        obtain ⟨hno38⟩ : Nonempty ((greetP ms i).length + 1 = (greetP ms (i + 1)).length) := ⟨(greetP_len ms i (by omega))⟩
        rw [hno38] at o38 ⊢
        replace hr := hr.fr f39 (row_app (wh_nw wh) lt_hr)
        have wh42 : A34 = none ∨ g35 ∈ ([] : List Nat) ∨ w.heap.size ≤ g35 := app_wh hat40 wh hF32.size
        have hF43 := hF32.thenOwnIn f39 wh
        refine s_y (y_assign rfl) rfl rfl ?_
        refine s_nil ?_
        refine n_inb ?_
        refine n_then ?_
        refine c_region ?_
        refine s_y (y_add rfl rfl (wrI (by omega) (by omega))) rfl rfl ?_
        refine s_y (y_move rfl) rfl rfl ?_
        refine s_nil ?_
        exact fun a ha => ⟨_, by omega, i + 1, A34, g35, c36, rfl, ha.cut ⟨rfl, rfl, rfl, rfl, (iv (by omega)), trivial⟩, hF43, hr, o38, by omega, (by rw [all_succ small 0 ms i (by omega), hall, Bool.true_and]; assumption), wh42⟩
    · intro h44
      replace h44 : ¬ ((↑i : Int) < ↑ms.length) := of_decide_eq_false h44
      refine c_exit ?_
      refine x_then ?_
      obtain rfl : i = ms.length := by omega
      rw [List.take_length] at hall
      replace ho : Own _ A' g' (greetP ms ms.length).length c' 5 1 ((greetB ms).map bv) := ho
      have hgl := greetB_len ms
      have hgl2 : (greetB ms).length = (greetP ms ms.length).length := rfl
      refine x_then ?_
      refine x_hit ?_
      refine n_then ?_
      refine c_seq ?_
      refine c_seq ?_
      refine c_region ?_
      refine s_y (y_move rfl) rfl rfl ?_
      refine s_d (d_callR T.ent27 (vs := [.slice A' (greetP ms ms.length).length c']) rfl (greet_ok A' g' 0 c' (greetB ms) _ (by first | omega | (fail)) ho.cap ho.row) (by rintro e w' ⟨_, _, _, _, _, _, rfl, -⟩; exact ⟨_, rfl⟩)) rfl rfl ?_
      rintro v61 w59 ⟨A45, g46, n47, c48, v49, x50, hv62, f60, ha63⟩
      obtain rfl := ret_inj hv62
      rcases ha63 with ⟨hno51, rfl, rfl, rfl, ho54, hwx55⟩ | ⟨gE56, rfl, rfl, rfl, rfl, rfl, hg57, hfa58⟩
      ·
        replace hr := hr.fr0 f60
        replace ho := ho.fr0 f60
        have hF64 := hF14.then0 f60
        have wh65 : A45 = none ∨ g46 ∈ ([] : List Nat) ∨ w.heap.size ≤ g46 := hwx55.imp id fun h => .inr (Nat.le_trans hF14.size h)
        refine s_y (y_move rfl) rfl rfl ?_
        refine s_y (y_extract rfl rfl) rfl rfl ?_
        refine s_y (y_extract rfl rfl) rfl rfl ?_
        refine s_y (y_extract rfl rfl) rfl rfl ?_
        refine s_y (y_assign rfl) rfl rfl ?_
        refine s_y (y_assign rfl) rfl rfl ?_
        refine s_y (y_assign rfl) rfl rfl ?_
        refine s_nil ?_
        refine n_then ?_
        refine c_seq ?_
        refine c_region ?_
        refine s_y (y_move rfl) rfl rfl ?_
        refine s_y (y_iix Tryd.underlying31 rfl) rfl rfl ?_
        refine s_y (y_move rfl) rfl rfl ?_
        refine s_gy (y_move rfl) ⟨_, _, _, _, rfl, rfl, rfl, rfl⟩ rfl ?_
        refine s_gy (y_move rfl) ⟨_, _, _, _, rfl, rfl, rfl, rfl⟩ rfl ?_
        refine s_gy (y_len Tryd.underlying22 rfl) ⟨_, _, _, _, rfl, rfl, rfl, rfl⟩ rfl ?_
        refine s_gy (y_neq rfl rfl rfl) ⟨_, _, _, _, rfl, rfl, rfl, rfl⟩ rfl ?_
        refine s_y (y_pick rfl rfl rfl rfl) rfl rfl ?_
        refine s_y (y_move rfl) rfl rfl ?_
        refine wl_bool (decide (((↑(greetL (greetB ms)).2.1) : Int) ≠ (↑(greetP ms ms.length).length))) ?_ ?_
        · intro hb66
          rw [hb66]
          have hp67 : ((↑(greetL (greetB ms)).2.1) : Int) ≠ (↑(greetP ms ms.length).length) := of_decide_eq_true hb66
          clear hb66
          refine s_skip ⟨_, _, _, _, rfl, rfl, rfl, rfl⟩ rfl ?_
          refine s_skip ⟨_, _, _, _, rfl, rfl, rfl, rfl⟩ rfl ?_
          refine s_y (y_pick rfl rfl rfl rfl) rfl rfl ?_
          refine s_nil ?_
          refine n_then ?_
          refine c_true rfl ?_
          refine c_seq ?_
          refine c_region ?_
          refine s_y (y_assign rfl) rfl rfl ?_
          refine s_y (y_assign rfl) rfl rfl ?_
          refine s_nil ?_
          refine n_then ?_
          refine c_ret ?_
          refine r_then ?_
          refine fin2 (by simp) rfl rfl rfl ?_
          have hp : putGreetL ms = ([], 2) := by first | exact pg_s ms i (by omega) (by assumption) | exact pg_n ms hfa58.ne | exact pg_l ms hno51 (by omega)
          exact ⟨none, 0, 0, 0, by rw [hp], hF64, by rw [hp]; rfl, by rw [hp]; exact Own.nil _ _ _ _, .inl rfl⟩
        · intro hb66
          rw [hb66]
          have hp68 : ((↑(greetL (greetB ms)).2.1) : Int) = (↑(greetP ms ms.length).length) := Decidable.not_not.1 (of_decide_eq_false hb66)
          clear hb66
          refine s_gy (y_move rfl) ⟨_, _, _, _, rfl, rfl, rfl, rfl⟩ rfl ?_
          refine s_gd (d_callR T.ent83 (vs := [.nilIface]) rfl (shortNil_ok _) (by rintro e w' ⟨rfl, -⟩; exact ⟨_, rfl⟩)) ⟨_, _, _, _, rfl, rfl, rfl, rfl⟩ rfl ?_
          rintro v71 w69 ⟨hv72, f70⟩
          obtain rfl := ret_inj hv72
          replace hr := hr.fr0 f70
          replace ho := ho.fr0 f70
          replace ho54 := ho54.fr0 f70
          have hF73 := hF64.then0 f70
          refine s_y (y_pick rfl rfl rfl rfl) rfl rfl ?_
          refine s_nil ?_
          refine n_then ?_
          refine c_false rfl ?_
          refine c_skip ?_
          refine n_then ?_
          refine c_seq ?_
          refine c_region ?_
          refine s_y (y_move rfl) rfl rfl ?_
          refine s_y (y_assign rfl) rfl rfl ?_
          refine s_y (y_assign rfl) rfl rfl ?_
          refine s_nil ?_
          refine n_then ?_
          refine c_ret ?_
          refine fin2 (by simp) rfl rfl rfl ?_
          have hp := pg_k ms hall hno51 (by omega)
          exact ⟨_, _, _, _, by rw [hp], hF73, by rw [hp]; rfl, by rw [hp]; exact ho, (by rcases (show _ ∨ _ ∈ ([] : List Nat) ∨ _ from wh) with h | h | h; exact .inl h; cases h; exact .inr h)⟩
      ·
        have ne74 := row_ne_new hr hg57
        have ne75 := ho.ne_new hg57
        have nw76 := Nat.le_trans hF14.size hg57
        replace hr := hr.fr0 f60
        replace ho := ho.fr0 f60
        have hF77 := hF14.then0 f60
        refine s_y (y_move rfl) rfl rfl ?_
        refine s_y (y_extract rfl rfl) rfl rfl ?_
        refine s_y (y_extract rfl rfl) rfl rfl ?_
        refine s_y (y_extract rfl rfl) rfl rfl ?_
        refine s_y (y_assign rfl) rfl rfl ?_
        refine s_y (y_assign rfl) rfl rfl ?_
        refine s_y (y_assign rfl) rfl rfl ?_
        refine s_nil ?_
        refine n_then ?_
        refine c_seq ?_
        refine c_region ?_
        refine s_y (y_move rfl) rfl rfl ?_
        refine s_y (y_inx Tryd.underlying31 rfl rfl) rfl rfl ?_
        refine s_y (y_move rfl) rfl rfl ?_
        refine s_skip ⟨_, _, _, _, rfl, rfl, rfl, rfl⟩ rfl ?_
        refine s_skip ⟨_, _, _, _, rfl, rfl, rfl, rfl⟩ rfl ?_
        refine s_skip ⟨_, _, _, _, rfl, rfl, rfl, rfl⟩ rfl ?_
        refine s_skip ⟨_, _, _, _, rfl, rfl, rfl, rfl⟩ rfl ?_
        refine s_y (y_pick rfl rfl rfl rfl) rfl rfl ?_
        refine s_y (y_move rfl) rfl rfl ?_
        refine s_skip ⟨_, _, _, _, rfl, rfl, rfl, rfl⟩ rfl ?_
        refine s_skip ⟨_, _, _, _, rfl, rfl, rfl, rfl⟩ rfl ?_
        refine s_y (y_pick rfl rfl rfl rfl) rfl rfl ?_
        refine s_nil ?_
        refine n_then ?_
        refine c_true rfl ?_
        refine c_seq ?_
        refine c_region ?_
        refine s_y (y_assign rfl) rfl rfl ?_
        refine s_y (y_assign rfl) rfl rfl ?_
        refine s_nil ?_
        refine n_then ?_
        refine c_ret ?_
        refine r_then ?_
        refine fin2 (by simp) rfl rfl rfl ?_
        have hp : putGreetL ms = ([], 2) := by first | exact pg_s ms i (by omega) (by assumption) | exact pg_n ms hfa58.ne | exact pg_l ms hno51 (by omega)
        exact ⟨none, 0, 0, 0, by rw [hp], hF77, by rw [hp]; rfl, by rw [hp]; exact Own.nil _ _ _ _, .inl rfl⟩

set_option maxHeartbeats 8000000 in
set_option maxRecDepth 100000 in
theorem putLogin_ok (u p : By) (w : World) (hu : u.length ≤ 1048576) (hp0 : p.length ≤ 1048576) :
    Calls Tryd.prog 41 #[.string ⟨u.toArray⟩, .string ⟨p.toArray⟩] w fun e w' => ∃ A' g' n' c', e = .returned (.tuple #[.slice A' n' c', .int .i64 (putLoginL u p).2]) ∧ Fr [] w w' ∧ n' = (putLoginL u p).1.length ∧ Own w' A' g' n' c' 5 1 ((putLoginL u p).1.map bv) ∧ (A' = none ∨ w.heap.size ≤ g') := by
  refine c_start (args := [.string ⟨u.toArray⟩, .string ⟨p.toArray⟩]) Tryd.func41 rfl rfl rfl ?_
  try simp only [enum, Nat.zero_add, Nat.reduceAdd]
  have hF0 := Fr.refl [] w
  refine c_seq ?_
  refine c_region ?_
  refine s_y (y_assign rfl) rfl rfl ?_
  refine s_y (y_assign rfl) rfl rfl ?_
  refine s_nil ?_
  refine n_then ?_
  refine c_seq ?_
  refine c_seq ?_
  refine c_region ?_
  refine s_y (y_move rfl) rfl rfl ?_
  refine s_y (y_seql rfl rfl rfl) rfl rfl ?_
  refine s_y (y_move rfl) rfl rfl ?_
  refine wl_bool (decide (u = ([] : List UInt8))) ?_ ?_
  · intro hb1
    rw [hb1]
    have hp2 : u = ([] : List UInt8) := of_decide_eq_true hb1
    clear hb1
    refine s_skip ⟨_, _, _, _, rfl, rfl, rfl, rfl⟩ rfl ?_
    refine s_skip ⟨_, _, _, _, rfl, rfl, rfl, rfl⟩ rfl ?_
    refine s_y (y_pick rfl rfl rfl rfl) rfl rfl ?_
    refine s_y (y_move rfl) rfl rfl ?_
    refine s_skip ⟨_, _, _, _, rfl, rfl, rfl, rfl⟩ rfl ?_
    refine s_skip ⟨_, _, _, _, rfl, rfl, rfl, rfl⟩ rfl ?_
    refine s_skip ⟨_, _, _, _, rfl, rfl, rfl, rfl⟩ rfl ?_
    refine s_y (y_pick rfl rfl rfl rfl) rfl rfl ?_
    refine s_y (y_move rfl) rfl rfl ?_
    refine s_skip ⟨_, _, _, _, rfl, rfl, rfl, rfl⟩ rfl ?_
    refine s_skip ⟨_, _, _, _, rfl, rfl, rfl, rfl⟩ rfl ?_
    refine s_skip ⟨_, _, _, _, rfl, rfl, rfl, rfl⟩ rfl ?_
    refine s_y (y_pick rfl rfl rfl rfl) rfl rfl ?_
    refine s_nil ?_
    refine n_then ?_
    refine c_true rfl ?_
    refine c_seq ?_
    refine c_region ?_
    refine s_y (y_assign rfl) rfl rfl ?_
    refine s_y (y_assign rfl) rfl rfl ?_
    refine s_nil ?_
    refine n_then ?_
    refine c_ret ?_
    refine r_then ?_
    refine fin2 (by simp) rfl rfl rfl ?_
    have hp : putLoginL u p = ([], 2) := pl_e u p (by first | exact .inl (by assumption) | exact .inr (.inl (by assumption)) | omega)
    exact ⟨none, 0, 0, 0, by rw [hp], hF0, by rw [hp]; rfl, by rw [hp]; exact Own.nil _ _ _ _, .inl rfl⟩
  · intro hb1
    rw [hb1]
    have hp3 : ¬ (u = ([] : List UInt8)) := of_decide_eq_false hb1
    clear hb1
    refine s_gy (y_move rfl) ⟨_, _, _, _, rfl, rfl, rfl, rfl⟩ rfl ?_
    refine s_gy (y_seql rfl rfl rfl) ⟨_, _, _, _, rfl, rfl, rfl, rfl⟩ rfl ?_
    refine s_y (y_pick rfl rfl rfl rfl) rfl rfl ?_
    refine s_y (y_move rfl) rfl rfl ?_
    refine wl_bool (decide (p = ([] : List UInt8))) ?_ ?_
    · intro hb4
      rw [hb4]
      have hp5 : p = ([] : List UInt8) := of_decide_eq_true hb4
      clear hb4
      refine s_skip ⟨_, _, _, _, rfl, rfl, rfl, rfl⟩ rfl ?_
      refine s_skip ⟨_, _, _, _, rfl, rfl, rfl, rfl⟩ rfl ?_
      refine s_skip ⟨_, _, _, _, rfl, rfl, rfl, rfl⟩ rfl ?_
      refine s_y (y_pick rfl rfl rfl rfl) rfl rfl ?_
      refine s_y (y_move rfl) rfl rfl ?_
      refine s_skip ⟨_, _, _, _, rfl, rfl, rfl, rfl⟩ rfl ?_
      refine s_skip ⟨_, _, _, _, rfl, rfl, rfl, rfl⟩ rfl ?_
      refine s_skip ⟨_, _, _, _, rfl, rfl, rfl, rfl⟩ rfl ?_
      refine s_y (y_pick rfl rfl rfl rfl) rfl rfl ?_
      refine s_nil ?_
      refine n_then ?_
      refine c_true rfl ?_
      refine c_seq ?_
      refine c_region ?_
      refine s_y (y_assign rfl) rfl rfl ?_
      refine s_y (y_assign rfl) rfl rfl ?_
      refine s_nil ?_
      refine n_then ?_
      refine c_ret ?_
      refine r_then ?_
      refine fin2 (by simp) rfl rfl rfl ?_
      have hp : putLoginL u p = ([], 2) := pl_e u p (by first | exact .inl (by assumption) | exact .inr (.inl (by assumption)) | omega)
      exact ⟨none, 0, 0, 0, by rw [hp], hF0, by rw [hp]; rfl, by rw [hp]; exact Own.nil _ _ _ _, .inl rfl⟩
    · intro hb4
      rw [hb4]
      have hp6 : ¬ (p = ([] : List UInt8)) := of_decide_eq_false hb4
      clear hb4
      refine s_gy (y_move rfl) ⟨_, _, _, _, rfl, rfl, rfl, rfl⟩ rfl ?_
      refine s_gy (y_lenS Tryd.underlying9 rfl) ⟨_, _, _, _, rfl, rfl, rfl, rfl⟩ rfl ?_
      refine s_gy (y_gtr rfl rfl rfl) ⟨_, _, _, _, rfl, rfl, rfl, rfl⟩ rfl ?_
      refine s_y (y_pick rfl rfl rfl rfl) rfl rfl ?_
      refine s_y (y_move rfl) rfl rfl ?_
      refine wl_bool (decide ((255 : Int) < ↑u.length)) ?_ ?_
      · intro hb7
        rw [hb7]
        have hp8 : (255 : Int) < ↑u.length := of_decide_eq_true hb7
        clear hb7
        refine s_skip ⟨_, _, _, _, rfl, rfl, rfl, rfl⟩ rfl ?_
        refine s_skip ⟨_, _, _, _, rfl, rfl, rfl, rfl⟩ rfl ?_
        refine s_skip ⟨_, _, _, _, rfl, rfl, rfl, rfl⟩ rfl ?_
        refine s_y (y_pick rfl rfl rfl rfl) rfl rfl ?_
        refine s_nil ?_
        refine n_then ?_
        refine c_true rfl ?_
        refine c_seq ?_
        refine c_region ?_
        refine s_y (y_assign rfl) rfl rfl ?_
        refine s_y (y_assign rfl) rfl rfl ?_
        refine s_nil ?_
        refine n_then ?_
        refine c_ret ?_
        refine r_then ?_
        refine fin2 (by simp) rfl rfl rfl ?_
        have hp : putLoginL u p = ([], 2) := pl_e u p (by first | exact .inl (by assumption) | exact .inr (.inl (by assumption)) | omega)
        exact ⟨none, 0, 0, 0, by rw [hp], hF0, by rw [hp]; rfl, by rw [hp]; exact Own.nil _ _ _ _, .inl rfl⟩
      · intro hb7
        rw [hb7]
        have hp9 : ¬ ((255 : Int) < ↑u.length) := of_decide_eq_false hb7
        clear hb7
        refine s_gy (y_move rfl) ⟨_, _, _, _, rfl, rfl, rfl, rfl⟩ rfl ?_
        refine s_gy (y_lenS Tryd.underlying9 rfl) ⟨_, _, _, _, rfl, rfl, rfl, rfl⟩ rfl ?_
        refine s_gy (y_gtr rfl rfl rfl) ⟨_, _, _, _, rfl, rfl, rfl, rfl⟩ rfl ?_
        refine s_y (y_pick rfl rfl rfl rfl) rfl rfl ?_
        refine s_nil ?_
        refine n_then ?_
        refine c_cond rfl ?_ ?_
        · intro h10
          replace h10 : (255 : Int) < ↑p.length := of_decide_eq_true h10
          refine c_seq ?_
          refine c_region ?_
          refine s_y (y_assign rfl) rfl rfl ?_
          refine s_y (y_assign rfl) rfl rfl ?_
          refine s_nil ?_
          refine n_then ?_
          refine c_ret ?_
          refine r_then ?_
          refine fin2 (by simp) rfl rfl rfl ?_
          have hp : putLoginL u p = ([], 2) := pl_e u p (by first | exact .inl (by assumption) | exact .inr (.inl (by assumption)) | omega)
          exact ⟨none, 0, 0, 0, by rw [hp], hF0, by rw [hp]; rfl, by rw [hp]; exact Own.nil _ _ _ _, .inl rfl⟩
        · intro h11
          replace h11 : ¬ ((255 : Int) < ↑p.length) := of_decide_eq_false h11
          refine c_skip ?_
          refine n_then ?_
          refine c_seq ?_
          refine c_region ?_
          refine s_y (y_move rfl) rfl rfl ?_
          refine s_y (y_lenS Tryd.underlying9 rfl) rfl rfl ?_
          refine s_y (y_conv (r := ↑(lowI ↑u.length).toNat) Tryd.underlying3 Tryd.underlying5 rfl (conv_lowI _)) rfl rfl ?_
          have hlit12 := (T.lit10 1 (↑(lowI ↑u.length).toNat))
          refine s_d (d_bs2 hlit12 ⟨rfl, rfl, rfl, rfl, trivial⟩) rfl rfl ?_
          rintro _ w14 ⟨g13, rfl, hg17, b15, f16⟩
          have nw18 := Nat.le_trans hF0.size hg17
          have hF19 := hF0.then0 f16
          have o20 := Own.of_blk (n := 2) (k := 1) b15 rfl (by decide)
          replace o20 : Own w14 (some ⟨g13, 0, none⟩) g13 2 2 5 1 (([1, lowI ↑u.length] : By).map bv) := o20
          refine s_y (y_assign rfl) rfl rfl ?_
          refine s_nil ?_
          refine n_then ?_
          refine c_seq ?_
          refine c_region ?_
          refine s_y (y_move rfl) rfl rfl ?_
          refine s_y (y_move rfl) rfl rfl ?_
          refine s_d (d_append Tryd.underlying22 T.ty5 T.app5 rfl o20 rfl (src_str Tryd.underlying9 u) (ones (by first | exact all_bv _ | exact all_wv _ | exact rfl | simp [all_bv, all_u32])) (by omega)) rfl rfl ?_
          rintro _ w24 ⟨A21, g22, c23, rfl, o25, f26, hat27⟩
          replace o25 : Own w24 A21 g22 (2 + u.length) c23 5 1 ((([1, lowI ↑u.length] : By) ++ u).map bv) := (by rw [List.map_append]; exact o25)
          obtain ⟨hno25⟩ : Nonempty (2 + u.length = (([1, lowI ↑u.length] : By) ++ u).length) := ⟨(by simp only [List.length_append, List.length_cons, List.length_nil] <;> omega)⟩
          rw [hno25] at o25 ⊢
          have wh29 : A21 = none ∨ g22 ∈ ([] : List Nat) ∨ w.heap.size ≤ g22 := app_wh hat27 (.inr (.inr nw18)) hF19.size
          have hF30 := hF19.thenOwnIn f26 (.inr (.inr nw18))
          refine s_y (y_assign rfl) rfl rfl ?_
          refine s_nil ?_
          refine n_then ?_
          refine c_seq ?_
          refine c_region ?_
          refine s_y (y_move rfl) rfl rfl ?_
          refine s_y (y_move rfl) rfl rfl ?_
          refine s_y (y_lenS Tryd.underlying9 rfl) rfl rfl ?_
          refine s_y (y_conv (r := ↑(lowI ↑p.length).toNat) Tryd.underlying3 Tryd.underlying5 rfl (conv_lowI _)) rfl rfl ?_
          have hlit31 := (T.lit13 (↑(lowI ↑p.length).toNat))
          refine s_d (d_bs2 hlit31 ⟨rfl, rfl, trivial⟩) rfl rfl ?_
          rintro _ w33 ⟨g32, rfl, hg36, b34, f35⟩
          have ne37 := o25.ne_new hg36
          have nw38 := Nat.le_trans hF30.size hg36
          replace o25 := o25.fr0 f35
          have hF39 := hF30.then0 f35
          have o40 := Own.of_blk (n := 1) (k := 1) b34 rfl (by decide)
          replace o40 : Own w33 (some ⟨g32, 0, none⟩) g32 1 1 5 1 (([lowI ↑p.length] : By).map bv) := o40
          refine s_d (d_append Tryd.underlying22 T.ty5 T.app5 rfl o25 rfl (src_row Tryd.underlying22 T.ty5 o40.row ()) (ones (by first | exact all_bv _ | exact all_wv _ | exact rfl | simp [all_bv, all_u32])) (by omega)) rfl rfl ?_
          rintro _ w44 ⟨A41, g42, c43, rfl, o45, f46, hat47⟩
          replace o45 : Own w44 A41 g42 ((([1, lowI ↑u.length] : By) ++ u).length + 1) c43 5 1 (((([1, lowI ↑u.length] : By) ++ u) ++ [lowI ↑p.length]).map bv) := (by rw [List.map_append]; exact o45)
          obtain ⟨hno45⟩ : Nonempty ((([1, lowI ↑u.length] : By) ++ u).length + 1 = ((([1, lowI ↑u.length] : By) ++ u) ++ [lowI ↑p.length]).length) := ⟨(by simp only [List.length_append, List.length_cons, List.length_nil] <;> omega)⟩
          rw [hno45] at o45 ⊢
          have wh49 : A41 = none ∨ g42 ∈ ([] : List Nat) ∨ w.heap.size ≤ g42 := app_wh hat47 wh29 hF39.size
          have hF50 := hF39.thenOwnIn f46 wh29
          refine s_y (y_assign rfl) rfl rfl ?_
          refine s_nil ?_
          refine n_then ?_
          refine c_seq ?_
          refine c_region ?_
          refine s_y (y_move rfl) rfl rfl ?_
          refine s_y (y_move rfl) rfl rfl ?_
          refine s_d (d_append Tryd.underlying22 T.ty5 T.app5 rfl o45 rfl (src_str Tryd.underlying9 p) (ones (by first | exact all_bv _ | exact all_wv _ | exact rfl | simp [all_bv, all_u32])) (by omega)) rfl rfl ?_
          rintro _ w54 ⟨A51, g52, c53, rfl, o55, f56, hat57⟩
          replace o55 : Own w54 A51 g52 (((([1, lowI ↑u.length] : By) ++ u) ++ [lowI ↑p.length]).length + p.length) c53 5 1 ((((([1, lowI ↑u.length] : By) ++ u) ++ [lowI ↑p.length]) ++ p).map bv) := (by rw [List.map_append]; exact o55)
          obtain ⟨hno55⟩ : Nonempty (((([1, lowI ↑u.length] : By) ++ u) ++ [lowI ↑p.length]).length + p.length = (((([1, lowI ↑u.length] : By) ++ u) ++ [lowI ↑p.length]) ++ p).length) := ⟨(by simp only [List.length_append, List.length_cons, List.length_nil] <;> omega)⟩
          rw [hno55] at o55 ⊢
          have wh59 : A51 = none ∨ g52 ∈ ([] : List Nat) ∨ w.heap.size ≤ g52 := app_wh hat57 wh49 hF50.size
          have hF60 := hF50.thenOwnIn f56 wh49
          refine s_y (y_assign rfl) rfl rfl ?_
          refine s_y (y_assign rfl) rfl rfl ?_
          refine s_nil ?_
          refine n_then ?_
          refine c_ret ?_
          refine fin2 (by simp) rfl rfl rfl ?_
          have hp := pl_k u p (by assumption) (by assumption) (by omega) (by omega)
          exact ⟨_, _, _, _, by rw [hp], hF60, by rw [hp]; rfl, by rw [hp]; exact o55, (by rcases (show _ ∨ _ ∈ ([] : List Nat) ∨ _ from wh59) with h | h | h; exact .inl h; cases h; exact .inr h)⟩

set_option maxHeartbeats 8000000 in
set_option maxRecDepth 100000 in
theorem back_ok (A : Option Addr) (g o c : Nat) (ms : List Int) (u p : By) (n : Int) (d : Ds) (A2 : Option Addr) (g2 o2 c2 : Nat) (more : By) (w : World) (hm : ms.length ≤ 1048576) (hu : u.length ≤ 1048576) (hp0 : p.length ≤ 1048576) (hdn : d.h.n.length ≤ 1048576) (hmo : more.length ≤ 1048576) (hr : Row w A g o ms.length 1 (ms.map jv)) (hw2 : Row w A2 g2 o2 more.length 1 (more.map bv)) (hG : Gl w) :
    Calls Tryd.prog 8 #[.slice A ms.length c, .string ⟨u.toArray⟩, .string ⟨p.toArray⟩, .int .i64 n, .agg [.int .u8 ↑d.h.ad.a.toNat, .int .u8 ↑d.h.ad.b.toNat, .int .u8 ↑d.h.ad.c.toNat, .int .u8 ↑d.h.ad.d.toNat, .string ⟨d.h.n.toArray⟩, .int .i64 d.p].toArray, .slice A2 more.length c2] w fun e w' => e = .returned (.bool true) ∧ Fr [] w w' := by
  have hG4 := hG.lt
  have hln1 := putGreet_len ms
  have hln2 := putLogin_len u p
  have hln3 := putReq_len n d
  have hla1 : ((putGreetL ms).1 ++ more).length = (putGreetL ms).1.length + more.length := List.length_append
  have hla2 : ((putLoginL u p).1 ++ more).length = (putLoginL u p).1.length + more.length := List.length_append
  have hla3 : ((putReqL n d).1 ++ more).length = (putReqL n d).1.length + more.length := List.length_append
  refine c_start (args := [.slice A ms.length c, .string ⟨u.toArray⟩, .string ⟨p.toArray⟩, .int .i64 n, _, .slice A2 more.length c2]) Tryd.func8 rfl rfl rfl ?_
  try simp only [enum, Nat.zero_add, Nat.reduceAdd]
  have hF0 := Fr.refl [] w
  have lt_hr := hr.lt'
  have lt_hw2 := hw2.lt'
  refine c_seq ?_
  refine c_region ?_
  refine s_d (d_box (cs := [.int .u8 ↑d.h.ad.a.toNat, .int .u8 ↑d.h.ad.b.toNat, .int .u8 ↑d.h.ad.c.toNat, .int .u8 ↑d.h.ad.d.toNat, .string ⟨d.h.n.toArray⟩, .int .i64 d.p]) rfl rfl) rfl rfl ?_
  rintro _ w2 ⟨g1, rfl, hg5, b3, f4⟩
  have ne6 := row_ne_new hr hg5
  have ne7 := row_ne_new hw2 hg5
  have nw8 := Nat.le_trans hF0.size hg5
  replace hG := hG.fr0 f4
  replace hr := hr.fr0 f4
  replace hw2 := hw2.fr0 f4
  have hF9 := hF0.then0 f4
  refine s_y (y_assign rfl) rfl rfl ?_
  refine s_nil ?_
  refine n_then ?_
  refine c_seq ?_
  refine c_seq ?_
  refine c_region ?_
  refine s_d (d_callR T.ent13 (vs := []) rfl (works_ok _ hG) (by rintro e w' ⟨rfl, -⟩; exact ⟨_, rfl⟩)) rfl rfl ?_
  rintro v12 w10 ⟨hv13, f11⟩
  obtain rfl := ret_inj hv13
  replace hG := hG.fr0 f11
  replace hr := hr.fr0 f11
  replace hw2 := hw2.fr0 f11
  replace b3 := b3.fr0 f11
  have hF14 := hF9.then0 f11
  refine s_y (y_not rfl rfl) rfl rfl ?_
  refine s_nil ?_
  refine n_then ?_
  refine c_false rfl ?_
  refine c_skip ?_
  refine n_then ?_
  refine c_seq ?_
  refine c_seq ?_
  refine c_region ?_
  refine s_y (y_move rfl) rfl rfl ?_
  refine s_d (d_callR T.ent39 (vs := [.slice A ms.length c]) rfl (putGreet_ok A g o c ms _ (by omega) hr) (by rintro e w' ⟨_, _, _, _, rfl, -⟩; exact ⟨_, rfl⟩)) rfl rfl ?_
  rintro v24 w22 ⟨A15, g16, n17, c18, hv25, f23, rfl, ho20, hwx21⟩
  obtain rfl := ret_inj hv25
  replace hG := hG.fr0 f23
  replace hr := hr.fr0 f23
  replace hw2 := hw2.fr0 f23
  replace b3 := b3.fr0 f23
  have hF26 := hF14.then0 f23
  have wh27 : A15 = none ∨ g16 ∈ ([] : List Nat) ∨ w.heap.size ≤ g16 := hwx21.imp id fun h => .inr (Nat.le_trans hF14.size h)
  refine s_y (y_move rfl) rfl rfl ?_
  refine s_y (y_extract rfl rfl) rfl rfl ?_
  refine s_y (y_extract rfl rfl) rfl rfl ?_
  refine s_y (y_assign rfl) rfl rfl ?_
  refine s_y (y_assign rfl) rfl rfl ?_
  refine s_nil ?_
  refine n_then ?_
  refine c_seq ?_
  refine c_region ?_
  refine s_y (y_move rfl) rfl rfl ?_
  refine s_y (y_eql rfl rfl rfl) rfl rfl ?_
  refine s_nil ?_
  refine n_then ?_
  refine c_cond rfl ?_ ?_
  · intro h28
    replace h28 : ((putGreetL ms).2 : Int) = 0 := of_decide_eq_true h28
    obtain ⟨hgb, hgi⟩ := greet_back ms more (by assumption)
    refine c_seq ?_
    refine c_region ?_
    refine s_y (y_move rfl) rfl rfl ?_
    refine s_d (d_callR T.ent16 (vs := [.slice A15 (putGreetL ms).1.length c18]) rfl (bytes_ok A15 g16 0 c18 (putGreetL ms).1 _ (by omega) ho20.row) (by rintro e w' ⟨_, _, _, rfl, -⟩; exact ⟨_, rfl⟩)) rfl rfl ?_
    rintro v36 w34 ⟨A29, g30, c31, hv37, f35, ho32, hwx33⟩
    obtain rfl := ret_inj hv37
    replace hG := hG.fr0 f35
    replace hr := hr.fr0 f35
    replace hw2 := hw2.fr0 f35
    replace b3 := b3.fr0 f35
    replace ho20 := ho20.fr0 f35
    have hF38 := hF26.then0 f35
    have wh39 : A29 = none ∨ g30 ∈ ([] : List Nat) ∨ w.heap.size ≤ g30 := hwx33.imp id fun h => .inr (Nat.le_trans hF26.size h)
    refine s_y (y_move rfl) rfl rfl ?_
    refine s_d (d_append Tryd.underlying22 T.ty5 T.app5 rfl ho32 rfl (src_row Tryd.underlying22 T.ty5 hw2 ()) (ones (by first | exact all_bv _ | exact all_wv _ | exact rfl | simp [all_bv, all_u32])) (by omega)) rfl rfl ?_
    rintro _ w43 ⟨A40, g41, c42, rfl, o44, f45, hat46⟩
    replace o44 : Own w43 A40 g41 ((putGreetL ms).1.length + more.length) c42 5 1 (((putGreetL ms).1 ++ more).map bv) := (by rw [List.map_append]; exact o44)
    obtain ⟨hno44⟩ : Nonempty ((putGreetL ms).1.length + more.length = ((putGreetL ms).1 ++ more).length) := ⟨(by simp only [List.length_append, List.length_cons, List.length_nil] <;> omega)⟩
    rw [hno44] at o44 ⊢
    replace hr := hr.fr f45 (row_app (wh_nw wh39) lt_hr)
    replace hw2 := hw2.fr f45 (row_app (wh_nw wh39) lt_hw2)
    replace hG := hG.fr f45 (not4 wh39 hG4)
    have ne48 := app_ap hat46 (ho32.ne_blk b3 (by decide)) b3.lt
    replace b3 := b3.fr f45 (no_own (ho32.ne_blk b3 (by decide)))
    have wh49 : A40 = none ∨ g41 ∈ ([] : List Nat) ∨ w.heap.size ≤ g41 := app_wh hat46 wh39 hF38.size
    have hF50 := hF38.thenOwnIn f45 wh39
    refine s_d (d_callR T.ent27 (vs := [.slice A40 ((putGreetL ms).1 ++ more).length c42]) rfl (greet_ok A40 g41 0 c42 ((putGreetL ms).1 ++ more) _ (by first | omega | (fail)) o44.cap o44.row) (by rintro e w' ⟨_, _, _, _, _, _, rfl, -⟩; exact ⟨_, rfl⟩)) rfl rfl ?_
    rintro v67 w65 ⟨A51, g52, n53, c54, v55, x56, hv68, f66, ha69⟩
    obtain rfl := ret_inj hv68
    rcases ha69 with ⟨-, rfl, hx58, hn59, ho60, hwx61⟩ | ⟨_, -, -, -, -, -, -, hfa64⟩
    ·
      rw [hgb] at hx58 hn59 ho60
      replace ho60 : Own _ A51 g52 n53 c54 3 1 (((ms.map lowI).map gi).map jv) := ho60
      rw [hgi] at ho60
      obtain rfl : x56 = ↑((putGreetL ms).1.length : Nat) := hx58
      obtain rfl : n53 = ms.length := hn59.trans (by simp)
      replace hG := hG.fr0 f66
      replace hr := hr.fr0 f66
      replace hw2 := hw2.fr0 f66
      replace b3 := b3.fr0 f66
      replace o44 := o44.fr0 f66
      have hF70 := hF50.then0 f66
      have wh71 : A51 = none ∨ g52 ∈ ([] : List Nat) ∨ w.heap.size ≤ g52 := hwx61.imp id fun h => .inr (Nat.le_trans hF50.size h)
      refine s_y (y_move rfl) rfl rfl ?_
      refine s_y (y_extract rfl rfl) rfl rfl ?_
      refine s_y (y_extract rfl rfl) rfl rfl ?_
      refine s_y (y_extract rfl rfl) rfl rfl ?_
      refine s_y (y_assign rfl) rfl rfl ?_
      refine s_y (y_assign rfl) rfl rfl ?_
      refine s_y (y_assign rfl) rfl rfl ?_
      refine s_nil ?_
      refine n_then ?_
      refine c_seq ?_
      refine c_region ?_
      refine s_y (y_move rfl) rfl rfl ?_
      refine s_y (y_iix Tryd.underlying31 rfl) rfl rfl ?_
      refine s_y (y_move rfl) rfl rfl ?_
      refine s_gy (y_move rfl) ⟨_, _, _, _, rfl, rfl, rfl, rfl⟩ rfl ?_
      refine s_gy (y_move rfl) ⟨_, _, _, _, rfl, rfl, rfl, rfl⟩ rfl ?_
      refine s_gy (y_len Tryd.underlying22 rfl) ⟨_, _, _, _, rfl, rfl, rfl, rfl⟩ rfl ?_
      refine s_gy (y_neq (r := false) rfl rfl (by simp)) ⟨_, _, _, _, rfl, rfl, rfl, rfl⟩ rfl ?_
      refine s_y (y_pick rfl rfl rfl rfl) rfl rfl ?_
      refine s_y (y_move rfl) rfl rfl ?_
      refine s_gy (y_move rfl) ⟨_, _, _, _, rfl, rfl, rfl, rfl⟩ rfl ?_
      refine s_gy (y_move rfl) ⟨_, _, _, _, rfl, rfl, rfl, rfl⟩ rfl ?_
      refine s_gd (d_callR T.ent29 (vs := [.slice A51 ms.length c54, .slice A ms.length c]) rfl ((by have hh := sameI_ok A51 g52 0 c54 ms A g o c ms _ (by omega) (by omega) ho60.row hr; rw [decide_eq_true rfl] at hh; exact hh)) (by rintro e w' ⟨rfl, -⟩; exact ⟨_, rfl⟩)) ⟨_, _, _, _, rfl, rfl, rfl, rfl⟩ rfl ?_
      rintro v74 w72 ⟨hv75, f73⟩
      obtain rfl := ret_inj hv75
      replace hG := hG.fr0 f73
      replace hr := hr.fr0 f73
      replace hw2 := hw2.fr0 f73
      replace b3 := b3.fr0 f73
      replace ho60 := ho60.fr0 f73
      have hF76 := hF70.then0 f73
      refine s_gy (y_not rfl rfl) ⟨_, _, _, _, rfl, rfl, rfl, rfl⟩ rfl ?_
      refine s_y (y_pick rfl rfl rfl rfl) rfl rfl ?_
      refine s_nil ?_
      refine n_then ?_
      refine c_false rfl ?_
      refine c_skip ?_
      refine n_then ?_
      refine c_seq ?_
      refine c_seq ?_
      refine c_region ?_
      refine s_y (y_move rfl) rfl rfl ?_
      refine s_y (y_move rfl) rfl rfl ?_
      refine s_d (d_callR T.ent41 (vs := [.string ⟨u.toArray⟩, .string ⟨p.toArray⟩]) rfl (putLogin_ok u p _ (by omega) (by omega)) (by rintro e w' ⟨_, _, _, _, rfl, -⟩; exact ⟨_, rfl⟩)) rfl rfl ?_
      rintro v86 w84 ⟨A77, g78, n79, c80, hv87, f85, rfl, ho82, hwx83⟩
      obtain rfl := ret_inj hv87
      replace hG := hG.fr0 f85
      replace hr := hr.fr0 f85
      replace hw2 := hw2.fr0 f85
      replace b3 := b3.fr0 f85
      have hF88 := hF76.then0 f85
      have wh89 : A77 = none ∨ g78 ∈ ([] : List Nat) ∨ w.heap.size ≤ g78 := hwx83.imp id fun h => .inr (Nat.le_trans hF76.size h)
      refine s_y (y_move rfl) rfl rfl ?_
      refine s_y (y_extract rfl rfl) rfl rfl ?_
      refine s_y (y_extract rfl rfl) rfl rfl ?_
      refine s_y (y_assign rfl) rfl rfl ?_
      refine s_y (y_assign rfl) rfl rfl ?_
      refine s_nil ?_
      refine n_then ?_
      refine c_seq ?_
      refine c_region ?_
      refine s_y (y_move rfl) rfl rfl ?_
      refine s_y (y_eql rfl rfl rfl) rfl rfl ?_
      refine s_nil ?_
      refine n_then ?_
      refine c_cond rfl ?_ ?_
      · intro h90
        replace h90 : ((putLoginL u p).2 : Int) = 0 := of_decide_eq_true h90
        have hlb := login_back u p more (by assumption)
        refine c_seq ?_
        refine c_region ?_
        refine s_y (y_move rfl) rfl rfl ?_
        refine s_d (d_callR T.ent16 (vs := [.slice A77 (putLoginL u p).1.length c80]) rfl (bytes_ok A77 g78 0 c80 (putLoginL u p).1 _ (by omega) ho82.row) (by rintro e w' ⟨_, _, _, rfl, -⟩; exact ⟨_, rfl⟩)) rfl rfl ?_
        rintro v98 w96 ⟨A91, g92, c93, hv99, f97, ho94, hwx95⟩
        obtain rfl := ret_inj hv99
        replace hG := hG.fr0 f97
        replace hr := hr.fr0 f97
        replace hw2 := hw2.fr0 f97
        replace b3 := b3.fr0 f97
        replace ho82 := ho82.fr0 f97
        have hF100 := hF88.then0 f97
        have wh101 : A91 = none ∨ g92 ∈ ([] : List Nat) ∨ w.heap.size ≤ g92 := hwx95.imp id fun h => .inr (Nat.le_trans hF88.size h)
        refine s_y (y_move rfl) rfl rfl ?_
        refine s_d (d_append Tryd.underlying22 T.ty5 T.app5 rfl ho94 rfl (src_row Tryd.underlying22 T.ty5 hw2 ()) (ones (by first | exact all_bv _ | exact all_wv _ | exact rfl | simp [all_bv, all_u32])) (by omega)) rfl rfl ?_
        rintro _ w105 ⟨A102, g103, c104, rfl, o106, f107, hat108⟩
        replace o106 : Own w105 A102 g103 ((putLoginL u p).1.length + more.length) c104 5 1 (((putLoginL u p).1 ++ more).map bv) := (by rw [List.map_append]; exact o106)
        obtain ⟨hno106⟩ : Nonempty ((putLoginL u p).1.length + more.length = ((putLoginL u p).1 ++ more).length) := ⟨(by simp only [List.length_append, List.length_cons, List.length_nil] <;> omega)⟩
        rw [hno106] at o106 ⊢
        replace hr := hr.fr f107 (row_app (wh_nw wh101) lt_hr)
        replace hw2 := hw2.fr f107 (row_app (wh_nw wh101) lt_hw2)
        replace hG := hG.fr f107 (not4 wh101 hG4)
        have ne110 := app_ap hat108 (ho94.ne_blk b3 (by decide)) b3.lt
        replace b3 := b3.fr f107 (no_own (ho94.ne_blk b3 (by decide)))
        have wh111 : A102 = none ∨ g103 ∈ ([] : List Nat) ∨ w.heap.size ≤ g103 := app_wh hat108 wh101 hF100.size
        have hF112 := hF100.thenOwnIn f107 wh101
        refine s_d (d_callR T.ent30 (vs := [.slice A102 ((putLoginL u p).1 ++ more).length c104]) rfl (login_ok A102 g103 0 c104 ((putLoginL u p).1 ++ more) _ (by first | omega | (fail)) o106.cap o106.row) (by rintro e w' ⟨_, _, _, _, rfl, -⟩; exact ⟨_, rfl⟩)) rfl rfl ?_
        rintro v123 w121 ⟨u113, p114, v115, x116, hv124, f122, ha125⟩
        obtain rfl := ret_inj hv124
        rcases ha125 with ⟨-, rfl, hu117, hp118, hx119⟩ | ⟨_, -, -, -, -, -, hfa120⟩
        ·
          obtain rfl : u = u113 := by rw [hlb] at hu117; exact hu117.symm
          obtain rfl : p = p114 := by rw [hlb] at hp118; exact hp118.symm
          obtain rfl : x116 = ↑((putLoginL u p).1.length : Nat) := by rw [hlb] at hx119; exact hx119
          replace hG := hG.fr0 f122
          replace hr := hr.fr0 f122
          replace hw2 := hw2.fr0 f122
          replace b3 := b3.fr0 f122
          replace o106 := o106.fr0 f122
          have hF126 := hF112.then0 f122
          refine s_y (y_move rfl) rfl rfl ?_
          refine s_y (y_extract rfl rfl) rfl rfl ?_
          refine s_y (y_extract rfl rfl) rfl rfl ?_
          refine s_y (y_extract rfl rfl) rfl rfl ?_
          refine s_y (y_extract rfl rfl) rfl rfl ?_
          refine s_y (y_assign rfl) rfl rfl ?_
          refine s_y (y_assign rfl) rfl rfl ?_
          refine s_y (y_assign rfl) rfl rfl ?_
          refine s_y (y_assign rfl) rfl rfl ?_
          refine s_nil ?_
          refine n_then ?_
          refine c_seq ?_
          refine c_region ?_
          refine s_y (y_move rfl) rfl rfl ?_
          refine s_y (y_iix Tryd.underlying31 rfl) rfl rfl ?_
          refine s_y (y_move rfl) rfl rfl ?_
          refine s_gy (y_move rfl) ⟨_, _, _, _, rfl, rfl, rfl, rfl⟩ rfl ?_
          refine s_gy (y_move rfl) ⟨_, _, _, _, rfl, rfl, rfl, rfl⟩ rfl ?_
          refine s_gy (y_len Tryd.underlying22 rfl) ⟨_, _, _, _, rfl, rfl, rfl, rfl⟩ rfl ?_
          refine s_gy (y_neq (r := false) rfl rfl (by simp)) ⟨_, _, _, _, rfl, rfl, rfl, rfl⟩ rfl ?_
          refine s_y (y_pick rfl rfl rfl rfl) rfl rfl ?_
          refine s_y (y_move rfl) rfl rfl ?_
          refine s_gy (y_move rfl) ⟨_, _, _, _, rfl, rfl, rfl, rfl⟩ rfl ?_
          refine s_gy (y_move rfl) ⟨_, _, _, _, rfl, rfl, rfl, rfl⟩ rfl ?_
          refine s_gy (y_sneq (r := false) rfl rfl (by simp)) ⟨_, _, _, _, rfl, rfl, rfl, rfl⟩ rfl ?_
          refine s_y (y_pick rfl rfl rfl rfl) rfl rfl ?_
          refine s_y (y_move rfl) rfl rfl ?_
          refine s_gy (y_move rfl) ⟨_, _, _, _, rfl, rfl, rfl, rfl⟩ rfl ?_
          refine s_gy (y_move rfl) ⟨_, _, _, _, rfl, rfl, rfl, rfl⟩ rfl ?_
          refine s_gy (y_sneq (r := false) rfl rfl (by simp)) ⟨_, _, _, _, rfl, rfl, rfl, rfl⟩ rfl ?_
          refine s_y (y_pick rfl rfl rfl rfl) rfl rfl ?_
          refine s_nil ?_
          refine n_then ?_
          refine c_false rfl ?_
          refine c_skip ?_
          refine n_then ?_
          refine c_seq ?_
          refine c_region ?_
          refine s_y (y_move rfl) rfl rfl ?_
          refine s_y (y_ldBA (xs := [.int .u8 ↑d.h.ad.a.toNat, .int .u8 ↑d.h.ad.b.toNat, .int .u8 ↑d.h.ad.c.toNat, .int .u8 ↑d.h.ad.d.toNat, .string ⟨d.h.n.toArray⟩, .int .i64 d.p]) T.ty29 rfl b3 rfl rfl) rfl rfl ?_
          refine s_d (d_callR T.ent20 (vs := [.int .i64 n, _]) rfl (putReq_ok n d _ (by omega) hG) (by rintro e w' ⟨_, _, _, _, rfl, -⟩; exact ⟨_, rfl⟩)) rfl rfl ?_
          rintro v136 w134 ⟨A127, g128, n129, c130, hv137, f135, rfl, ho132, hwx133⟩
          obtain rfl := ret_inj hv137
          replace hG := hG.fr0 f135
          replace hr := hr.fr0 f135
          replace hw2 := hw2.fr0 f135
          replace b3 := b3.fr0 f135
          have hF138 := hF126.then0 f135
          have wh139 : A127 = none ∨ g128 ∈ ([] : List Nat) ∨ w.heap.size ≤ g128 := hwx133.imp id fun h => .inr (Nat.le_trans hF126.size h)
          refine s_y (y_move rfl) rfl rfl ?_
          refine s_y (y_extract rfl rfl) rfl rfl ?_
          refine s_y (y_extract rfl rfl) rfl rfl ?_
          refine s_y (y_assign rfl) rfl rfl ?_
          refine s_y (y_assign rfl) rfl rfl ?_
          refine s_nil ?_
          refine n_then ?_
          refine c_seq ?_
          refine c_seq ?_
          refine c_region ?_
          refine s_y (y_move rfl) rfl rfl ?_
          refine s_y (y_neq rfl rfl rfl) rfl rfl ?_
          refine s_nil ?_
          refine n_then ?_
          refine c_cond rfl ?_ ?_
          · intro h140
            replace h140 : ((putReqL n d).2 : Int) ≠ 0 := of_decide_eq_true h140
            refine c_seq ?_
            refine c_region ?_
            refine s_y (y_move rfl) rfl rfl ?_
            refine s_y (y_len Tryd.underlying22 rfl) rfl rfl ?_
            refine s_y (y_eql rfl rfl rfl) rfl rfl ?_
            refine s_y (y_assign rfl) rfl rfl ?_
            refine s_nil ?_
            refine n_then ?_
            refine c_ret ?_
            refine r_then ?_
            refine fin1 (by simp) rfl rfl ?_
            exact ⟨by rw [show decide (((↑(putReqL n d).1.length) : Int) = 0) = true from decide_eq_true (by first | omega | (have := put_e0 n d (by assumption); omega))] <;> rfl, hF138⟩
          · intro h141
            replace h141 : ((putReqL n d).2 : Int) = 0 := Decidable.not_not.1 (of_decide_eq_false h141)
            have hrb := req_back n d more (by first | assumption | omega)
            have hn0 : (↑n.toNat : Int) = n := by have := (small_of (put_0 n d (by first | assumption | omega)).1).1; omega
            refine c_skip ?_
            refine n_then ?_
            refine c_seq ?_
            refine c_region ?_
            refine s_y (y_move rfl) rfl rfl ?_
            refine s_d (d_callR T.ent16 (vs := [.slice A127 (putReqL n d).1.length c130]) rfl (bytes_ok A127 g128 0 c130 (putReqL n d).1 _ (by omega) ho132.row) (by rintro e w' ⟨_, _, _, rfl, -⟩; exact ⟨_, rfl⟩)) rfl rfl ?_
            rintro v149 w147 ⟨A142, g143, c144, hv150, f148, ho145, hwx146⟩
            obtain rfl := ret_inj hv150
            replace hG := hG.fr0 f148
            replace hr := hr.fr0 f148
            replace hw2 := hw2.fr0 f148
            replace b3 := b3.fr0 f148
            replace ho132 := ho132.fr0 f148
            have hF151 := hF138.then0 f148
            have wh152 : A142 = none ∨ g143 ∈ ([] : List Nat) ∨ w.heap.size ≤ g143 := hwx146.imp id fun h => .inr (Nat.le_trans hF138.size h)
            refine s_y (y_move rfl) rfl rfl ?_
            refine s_d (d_append Tryd.underlying22 T.ty5 T.app5 rfl ho145 rfl (src_row Tryd.underlying22 T.ty5 hw2 ()) (ones (by first | exact all_bv _ | exact all_wv _ | exact rfl | simp [all_bv, all_u32])) (by omega)) rfl rfl ?_
            rintro _ w156 ⟨A153, g154, c155, rfl, o157, f158, hat159⟩
            replace o157 : Own w156 A153 g154 ((putReqL n d).1.length + more.length) c155 5 1 (((putReqL n d).1 ++ more).map bv) := (by rw [List.map_append]; exact o157)
            obtain ⟨hno157⟩ : Nonempty ((putReqL n d).1.length + more.length = ((putReqL n d).1 ++ more).length) := ⟨(by simp only [List.length_append, List.length_cons, List.length_nil] <;> omega)⟩
            rw [hno157] at o157 ⊢
            replace hr := hr.fr f158 (row_app (wh_nw wh152) lt_hr)
            replace hw2 := hw2.fr f158 (row_app (wh_nw wh152) lt_hw2)
            replace hG := hG.fr f158 (not4 wh152 hG4)
            have ne161 := app_ap hat159 (ho145.ne_blk b3 (by decide)) b3.lt
            replace b3 := b3.fr f158 (no_own (ho145.ne_blk b3 (by decide)))
            have wh162 : A153 = none ∨ g154 ∈ ([] : List Nat) ∨ w.heap.size ≤ g154 := app_wh hat159 wh152 hF151.size
            have hF163 := hF151.thenOwnIn f158 wh152
            refine s_d (d_callR T.ent14 (vs := [.slice A153 ((putReqL n d).1 ++ more).length c155]) rfl (request_ok A153 g154 0 c155 ((putReqL n d).1 ++ more) _ (by first | omega | decide | (fail)) o157.cap o157.row hG) (by rintro e w' ⟨_, _, _, _, rfl, -⟩; exact ⟨_, rfl⟩)) rfl rfl ?_
            rintro v177 w175 ⟨d164, v165, c166, x167, hv178, f176, ha179⟩
            obtain rfl := ret_inj hv178
            rcases ha179 with ⟨-, rfl, hc172, hd173, hx174⟩ | ⟨_, -, -, -, -, -, hfa171⟩
            ·
              obtain rfl : c166 = ↑(n.toNat : Nat) := by rw [hrb] at hc172; exact hc172
              obtain rfl : d = d164 := by rw [hrb] at hd173; exact hd173.symm
              obtain rfl : x167 = ↑((putReqL n d).1.length : Nat) := by rw [hrb] at hx174; exact hx174
              replace hG := hG.fr0 f176
              replace hr := hr.fr0 f176
              replace hw2 := hw2.fr0 f176
              replace b3 := b3.fr0 f176
              replace o157 := o157.fr0 f176
              have hF180 := hF163.then0 f176
              refine s_y (y_move rfl) rfl rfl ?_
              refine s_y (y_extract rfl rfl) rfl rfl ?_
              refine s_y (y_extract rfl rfl) rfl rfl ?_
              refine s_y (y_extract rfl rfl) rfl rfl ?_
              refine s_y (y_extract rfl rfl) rfl rfl ?_
              refine s_d (d_alloc (cs := [.int .u8 0, .int .u8 0, .int .u8 0, .int .u8 0, .string ⟨[].toArray⟩, .int .i64 0]) T.zero29 rfl) rfl rfl ?_
              rintro _ w182 ⟨g181, rfl, hg185, b183, f184⟩
              have ne186 := row_ne_new hr hg185
              have ne187 := row_ne_new hw2 hg185
              have ne188 : g1 ≠ g181 := Nat.ne_of_lt (Nat.lt_of_lt_of_le b3.lt hg185)
              have nw189 := Nat.le_trans hF180.size hg185
              replace hG := hG.fr0 f184
              replace hr := hr.fr0 f184
              replace hw2 := hw2.fr0 f184
              replace b3 := b3.fr0 f184
              have hF190 := hF180.then0 f184
              refine s_y (y_assign rfl) rfl rfl ?_
              refine s_d (d_store (cs := [.int .u8 ↑d.h.ad.a.toNat, .int .u8 ↑d.h.ad.b.toNat, .int .u8 ↑d.h.ad.c.toNat, .int .u8 ↑d.h.ad.d.toNat, .string ⟨d.h.n.toArray⟩, .int .i64 d.p]) (l' := [.int .u8 ↑d.h.ad.a.toNat, .int .u8 ↑d.h.ad.b.toNat, .int .u8 ↑d.h.ad.c.toNat, .int .u8 ↑d.h.ad.d.toNat, .string ⟨d.h.n.toArray⟩, .int .i64 d.p]) T.ty29 rfl rfl b183 rfl rfl (ones rfl) (Nat.le_of_ble_eq_true rfl) rfl) rfl rfl ?_
              rintro _ w191 ⟨rfl, b192, f193⟩
              replace hG := hG.fr f193 (by simp only [List.mem_cons, List.not_mem_nil, or_false, not_or]; exact by omega)
              replace hr := hr.fr1 f193 ne186
              replace hw2 := hw2.fr1 f193 ne187
              replace b3 := b3.fr1 f193 ne188
              clear b183
              have hF194 := hF190.thenNew f193 nw189
              refine s_y (y_assign rfl) rfl rfl ?_
              refine s_y (y_assign rfl) rfl rfl ?_
              refine s_nil ?_
              refine n_then ?_
              refine c_seq ?_
              refine c_region ?_
              refine s_y (y_move rfl) rfl rfl ?_
              refine s_y (y_ii Tryd.underlying31 rfl) rfl rfl ?_
              refine s_y (y_move rfl) rfl rfl ?_
              refine s_gy (y_move rfl) ⟨_, _, _, _, rfl, rfl, rfl, rfl⟩ rfl ?_
              refine s_gy (y_move rfl) ⟨_, _, _, _, rfl, rfl, rfl, rfl⟩ rfl ?_
              refine s_gy (y_len Tryd.underlying22 rfl) ⟨_, _, _, _, rfl, rfl, rfl, rfl⟩ rfl ?_
              refine s_gy (y_eql (r := true) rfl rfl (by simp)) ⟨_, _, _, _, rfl, rfl, rfl, rfl⟩ rfl ?_
              refine s_y (y_pick rfl rfl rfl rfl) rfl rfl ?_
              refine s_y (y_move rfl) rfl rfl ?_
              refine s_gy (y_move rfl) ⟨_, _, _, _, rfl, rfl, rfl, rfl⟩ rfl ?_
              refine s_gy (y_move rfl) ⟨_, _, _, _, rfl, rfl, rfl, rfl⟩ rfl ?_
              refine s_gy (y_eql rfl rfl rfl) ⟨_, _, _, _, rfl, rfl, rfl, rfl⟩ rfl ?_
              refine s_y (y_pick rfl rfl rfl rfl) rfl rfl ?_
              refine s_y (y_move rfl) rfl rfl ?_
              refine wl_bool (decide ((↑n.toNat : Int) = n)) ?_ ?_
              · intro hb195
                rw [hb195]
                have hp196 : (↑n.toNat : Int) = n := of_decide_eq_true hb195
                clear hb195
                refine s_gy (y_ldBA (xs := [.int .u8 ↑d.h.ad.a.toNat, .int .u8 ↑d.h.ad.b.toNat, .int .u8 ↑d.h.ad.c.toNat, .int .u8 ↑d.h.ad.d.toNat, .string ⟨d.h.n.toArray⟩, .int .i64 d.p]) T.ty29 rfl b192 rfl rfl) ⟨_, _, _, _, rfl, rfl, rfl, rfl⟩ rfl ?_
                refine s_gy (y_ldBA (xs := [.int .u8 ↑d.h.ad.a.toNat, .int .u8 ↑d.h.ad.b.toNat, .int .u8 ↑d.h.ad.c.toNat, .int .u8 ↑d.h.ad.d.toNat, .string ⟨d.h.n.toArray⟩, .int .i64 d.p]) T.ty29 rfl b3 rfl rfl) ⟨_, _, _, _, rfl, rfl, rfl, rfl⟩ rfl ?_
                refine s_gy (y_eqA (r := true) (eq29 d d) rfl rfl (by rw [decide_eq_true rfl])) ⟨_, _, _, _, rfl, rfl, rfl, rfl⟩ rfl ?_
                refine s_y (y_pick rfl rfl rfl rfl) rfl rfl ?_
                refine s_y (y_assign rfl) rfl rfl ?_
                refine s_nil ?_
                refine n_then ?_
                refine c_ret ?_
                refine fin1 (by simp) rfl rfl ?_
                exact ⟨rfl, hF194⟩
              · intro hb195
                rw [hb195]
                have hp197 : ¬ ((↑n.toNat : Int) = n) := of_decide_eq_false hb195
                clear hb195
                refine s_skip ⟨_, _, _, _, rfl, rfl, rfl, rfl⟩ rfl ?_
                refine s_skip ⟨_, _, _, _, rfl, rfl, rfl, rfl⟩ rfl ?_
                refine s_skip ⟨_, _, _, _, rfl, rfl, rfl, rfl⟩ rfl ?_
                refine s_y (y_pick rfl rfl rfl rfl) rfl rfl ?_
                refine s_y (y_assign rfl) rfl rfl ?_
                refine s_nil ?_
                refine n_then ?_
                refine c_ret ?_
                refine fin1 (by simp) rfl rfl ?_
                exfalso; first | omega | exact absurd rfl ‹¬ (_ = _)›
            · (rw [hrb] at hfa171; exact hfa171.elim)
        · (rw [hlb] at hfa120; exact hfa120.elim)
      · intro h198
        replace h198 : ¬ (((putLoginL u p).2 : Int) = 0) := of_decide_eq_false h198
        refine c_skip ?_
        refine n_then ?_
        refine c_seq ?_
        refine c_region ?_
        refine s_y (y_move rfl) rfl rfl ?_
        refine s_y (y_ldBA (xs := [.int .u8 ↑d.h.ad.a.toNat, .int .u8 ↑d.h.ad.b.toNat, .int .u8 ↑d.h.ad.c.toNat, .int .u8 ↑d.h.ad.d.toNat, .string ⟨d.h.n.toArray⟩, .int .i64 d.p]) T.ty29 rfl b3 rfl rfl) rfl rfl ?_
        refine s_d (d_callR T.ent20 (vs := [.int .i64 n, _]) rfl (putReq_ok n d _ (by omega) hG) (by rintro e w' ⟨_, _, _, _, rfl, -⟩; exact ⟨_, rfl⟩)) rfl rfl ?_
        rintro v208 w206 ⟨A199, g200, n201, c202, hv209, f207, rfl, ho204, hwx205⟩
        obtain rfl := ret_inj hv209
        replace hG := hG.fr0 f207
        replace hr := hr.fr0 f207
        replace hw2 := hw2.fr0 f207
        replace b3 := b3.fr0 f207
        replace ho82 := ho82.fr0 f207
        have hF210 := hF88.then0 f207
        have wh211 : A199 = none ∨ g200 ∈ ([] : List Nat) ∨ w.heap.size ≤ g200 := hwx205.imp id fun h => .inr (Nat.le_trans hF88.size h)
        refine s_y (y_move rfl) rfl rfl ?_
        refine s_y (y_extract rfl rfl) rfl rfl ?_
        refine s_y (y_extract rfl rfl) rfl rfl ?_
        refine s_y (y_assign rfl) rfl rfl ?_
        refine s_y (y_assign rfl) rfl rfl ?_
        refine s_nil ?_
        refine n_then ?_
        refine c_seq ?_
        refine c_seq ?_
        refine c_region ?_
        refine s_y (y_move rfl) rfl rfl ?_
        refine s_y (y_neq rfl rfl rfl) rfl rfl ?_
        refine s_nil ?_
        refine n_then ?_
        refine c_cond rfl ?_ ?_
        · intro h212
          replace h212 : ((putReqL n d).2 : Int) ≠ 0 := of_decide_eq_true h212
          refine c_seq ?_
          refine c_region ?_
          refine s_y (y_move rfl) rfl rfl ?_
          refine s_y (y_len Tryd.underlying22 rfl) rfl rfl ?_
          refine s_y (y_eql rfl rfl rfl) rfl rfl ?_
          refine s_y (y_assign rfl) rfl rfl ?_
          refine s_nil ?_
          refine n_then ?_
          refine c_ret ?_
          refine r_then ?_
          refine fin1 (by simp) rfl rfl ?_
          exact ⟨by rw [show decide (((↑(putReqL n d).1.length) : Int) = 0) = true from decide_eq_true (by first | omega | (have := put_e0 n d (by assumption); omega))] <;> rfl, hF210⟩
        · intro h213
          replace h213 : ((putReqL n d).2 : Int) = 0 := Decidable.not_not.1 (of_decide_eq_false h213)
          have hrb := req_back n d more (by first | assumption | omega)
          have hn0 : (↑n.toNat : Int) = n := by have := (small_of (put_0 n d (by first | assumption | omega)).1).1; omega
          refine c_skip ?_
          refine n_then ?_
          refine c_seq ?_
          refine c_region ?_
          refine s_y (y_move rfl) rfl rfl ?_
          refine s_d (d_callR T.ent16 (vs := [.slice A199 (putReqL n d).1.length c202]) rfl (bytes_ok A199 g200 0 c202 (putReqL n d).1 _ (by omega) ho204.row) (by rintro e w' ⟨_, _, _, rfl, -⟩; exact ⟨_, rfl⟩)) rfl rfl ?_
          rintro v221 w219 ⟨A214, g215, c216, hv222, f220, ho217, hwx218⟩
          obtain rfl := ret_inj hv222
          replace hG := hG.fr0 f220
          replace hr := hr.fr0 f220
          replace hw2 := hw2.fr0 f220
          replace b3 := b3.fr0 f220
          replace ho82 := ho82.fr0 f220
          replace ho204 := ho204.fr0 f220
          have hF223 := hF210.then0 f220
          have wh224 : A214 = none ∨ g215 ∈ ([] : List Nat) ∨ w.heap.size ≤ g215 := hwx218.imp id fun h => .inr (Nat.le_trans hF210.size h)
          refine s_y (y_move rfl) rfl rfl ?_
          refine s_d (d_append Tryd.underlying22 T.ty5 T.app5 rfl ho217 rfl (src_row Tryd.underlying22 T.ty5 hw2 ()) (ones (by first | exact all_bv _ | exact all_wv _ | exact rfl | simp [all_bv, all_u32])) (by omega)) rfl rfl ?_
          rintro _ w228 ⟨A225, g226, c227, rfl, o229, f230, hat231⟩
          replace o229 : Own w228 A225 g226 ((putReqL n d).1.length + more.length) c227 5 1 (((putReqL n d).1 ++ more).map bv) := (by rw [List.map_append]; exact o229)
          obtain ⟨hno229⟩ : Nonempty ((putReqL n d).1.length + more.length = ((putReqL n d).1 ++ more).length) := ⟨(by simp only [List.length_append, List.length_cons, List.length_nil] <;> omega)⟩
          rw [hno229] at o229 ⊢
          replace hr := hr.fr f230 (row_app (wh_nw wh224) lt_hr)
          replace hw2 := hw2.fr f230 (row_app (wh_nw wh224) lt_hw2)
          replace hG := hG.fr f230 (not4 wh224 hG4)
          have ne233 := app_ap hat231 (ho217.ne_blk b3 (by decide)) b3.lt
          replace b3 := b3.fr f230 (no_own (ho217.ne_blk b3 (by decide)))
          have wh234 : A225 = none ∨ g226 ∈ ([] : List Nat) ∨ w.heap.size ≤ g226 := app_wh hat231 wh224 hF223.size
          have hF235 := hF223.thenOwnIn f230 wh224
          refine s_d (d_callR T.ent14 (vs := [.slice A225 ((putReqL n d).1 ++ more).length c227]) rfl (request_ok A225 g226 0 c227 ((putReqL n d).1 ++ more) _ (by first | omega | decide | (fail)) o229.cap o229.row hG) (by rintro e w' ⟨_, _, _, _, rfl, -⟩; exact ⟨_, rfl⟩)) rfl rfl ?_
          rintro v249 w247 ⟨d236, v237, c238, x239, hv250, f248, ha251⟩
          obtain rfl := ret_inj hv250
          rcases ha251 with ⟨-, rfl, hc244, hd245, hx246⟩ | ⟨_, -, -, -, -, -, hfa243⟩
          ·
            obtain rfl : c238 = ↑(n.toNat : Nat) := by rw [hrb] at hc244; exact hc244
            obtain rfl : d = d236 := by rw [hrb] at hd245; exact hd245.symm
            obtain rfl : x239 = ↑((putReqL n d).1.length : Nat) := by rw [hrb] at hx246; exact hx246
            replace hG := hG.fr0 f248
            replace hr := hr.fr0 f248
            replace hw2 := hw2.fr0 f248
            replace b3 := b3.fr0 f248
            replace o229 := o229.fr0 f248
            have hF252 := hF235.then0 f248
            refine s_y (y_move rfl) rfl rfl ?_
            refine s_y (y_extract rfl rfl) rfl rfl ?_
            refine s_y (y_extract rfl rfl) rfl rfl ?_
            refine s_y (y_extract rfl rfl) rfl rfl ?_
            refine s_y (y_extract rfl rfl) rfl rfl ?_
            refine s_d (d_alloc (cs := [.int .u8 0, .int .u8 0, .int .u8 0, .int .u8 0, .string ⟨[].toArray⟩, .int .i64 0]) T.zero29 rfl) rfl rfl ?_
            rintro _ w254 ⟨g253, rfl, hg257, b255, f256⟩
            have ne258 := row_ne_new hr hg257
            have ne259 := row_ne_new hw2 hg257
            have ne260 : g1 ≠ g253 := Nat.ne_of_lt (Nat.lt_of_lt_of_le b3.lt hg257)
            have nw261 := Nat.le_trans hF252.size hg257
            replace hG := hG.fr0 f256
            replace hr := hr.fr0 f256
            replace hw2 := hw2.fr0 f256
            replace b3 := b3.fr0 f256
            have hF262 := hF252.then0 f256
            refine s_y (y_assign rfl) rfl rfl ?_
            refine s_d (d_store (cs := [.int .u8 ↑d.h.ad.a.toNat, .int .u8 ↑d.h.ad.b.toNat, .int .u8 ↑d.h.ad.c.toNat, .int .u8 ↑d.h.ad.d.toNat, .string ⟨d.h.n.toArray⟩, .int .i64 d.p]) (l' := [.int .u8 ↑d.h.ad.a.toNat, .int .u8 ↑d.h.ad.b.toNat, .int .u8 ↑d.h.ad.c.toNat, .int .u8 ↑d.h.ad.d.toNat, .string ⟨d.h.n.toArray⟩, .int .i64 d.p]) T.ty29 rfl rfl b255 rfl rfl (ones rfl) (Nat.le_of_ble_eq_true rfl) rfl) rfl rfl ?_
            rintro _ w263 ⟨rfl, b264, f265⟩
            replace hG := hG.fr f265 (by simp only [List.mem_cons, List.not_mem_nil, or_false, not_or]; exact by omega)
            replace hr := hr.fr1 f265 ne258
            replace hw2 := hw2.fr1 f265 ne259
            replace b3 := b3.fr1 f265 ne260
            clear b255
            have hF266 := hF262.thenNew f265 nw261
            refine s_y (y_assign rfl) rfl rfl ?_
            refine s_y (y_assign rfl) rfl rfl ?_
            refine s_nil ?_
            refine n_then ?_
            refine c_seq ?_
            refine c_region ?_
            refine s_y (y_move rfl) rfl rfl ?_
            refine s_y (y_ii Tryd.underlying31 rfl) rfl rfl ?_
            refine s_y (y_move rfl) rfl rfl ?_
            refine s_gy (y_move rfl) ⟨_, _, _, _, rfl, rfl, rfl, rfl⟩ rfl ?_
            refine s_gy (y_move rfl) ⟨_, _, _, _, rfl, rfl, rfl, rfl⟩ rfl ?_
            refine s_gy (y_len Tryd.underlying22 rfl) ⟨_, _, _, _, rfl, rfl, rfl, rfl⟩ rfl ?_
            refine s_gy (y_eql (r := true) rfl rfl (by simp)) ⟨_, _, _, _, rfl, rfl, rfl, rfl⟩ rfl ?_
            refine s_y (y_pick rfl rfl rfl rfl) rfl rfl ?_
            refine s_y (y_move rfl) rfl rfl ?_
            refine s_gy (y_move rfl) ⟨_, _, _, _, rfl, rfl, rfl, rfl⟩ rfl ?_
            refine s_gy (y_move rfl) ⟨_, _, _, _, rfl, rfl, rfl, rfl⟩ rfl ?_
            refine s_gy (y_eql rfl rfl rfl) ⟨_, _, _, _, rfl, rfl, rfl, rfl⟩ rfl ?_
            refine s_y (y_pick rfl rfl rfl rfl) rfl rfl ?_
            refine s_y (y_move rfl) rfl rfl ?_
            refine wl_bool (decide ((↑n.toNat : Int) = n)) ?_ ?_
            · intro hb267
              rw [hb267]
              have hp268 : (↑n.toNat : Int) = n := of_decide_eq_true hb267
              clear hb267
              refine s_gy (y_ldBA (xs := [.int .u8 ↑d.h.ad.a.toNat, .int .u8 ↑d.h.ad.b.toNat, .int .u8 ↑d.h.ad.c.toNat, .int .u8 ↑d.h.ad.d.toNat, .string ⟨d.h.n.toArray⟩, .int .i64 d.p]) T.ty29 rfl b264 rfl rfl) ⟨_, _, _, _, rfl, rfl, rfl, rfl⟩ rfl ?_
              refine s_gy (y_ldBA (xs := [.int .u8 ↑d.h.ad.a.toNat, .int .u8 ↑d.h.ad.b.toNat, .int .u8 ↑d.h.ad.c.toNat, .int .u8 ↑d.h.ad.d.toNat, .string ⟨d.h.n.toArray⟩, .int .i64 d.p]) T.ty29 rfl b3 rfl rfl) ⟨_, _, _, _, rfl, rfl, rfl, rfl⟩ rfl ?_
              refine s_gy (y_eqA (r := true) (eq29 d d) rfl rfl (by rw [decide_eq_true rfl])) ⟨_, _, _, _, rfl, rfl, rfl, rfl⟩ rfl ?_
              refine s_y (y_pick rfl rfl rfl rfl) rfl rfl ?_
              refine s_y (y_assign rfl) rfl rfl ?_
              refine s_nil ?_
              refine n_then ?_
              refine c_ret ?_
              refine fin1 (by simp) rfl rfl ?_
              exact ⟨rfl, hF266⟩
            · intro hb267
              rw [hb267]
              have hp269 : ¬ ((↑n.toNat : Int) = n) := of_decide_eq_false hb267
              clear hb267
              refine s_skip ⟨_, _, _, _, rfl, rfl, rfl, rfl⟩ rfl ?_
              refine s_skip ⟨_, _, _, _, rfl, rfl, rfl, rfl⟩ rfl ?_
              refine s_skip ⟨_, _, _, _, rfl, rfl, rfl, rfl⟩ rfl ?_
              refine s_y (y_pick rfl rfl rfl rfl) rfl rfl ?_
              refine s_y (y_assign rfl) rfl rfl ?_
              refine s_nil ?_
              refine n_then ?_
              refine c_ret ?_
              refine fin1 (by simp) rfl rfl ?_
              exfalso; first | omega | exact absurd rfl ‹¬ (_ = _)›
          · (rw [hrb] at hfa243; exact hfa243.elim)
    · (rw [hgb] at hfa64; exact hfa64.elim)
  · intro h270
    replace h270 : ¬ (((putGreetL ms).2 : Int) = 0) := of_decide_eq_false h270
    refine c_skip ?_
    refine n_then ?_
    refine c_seq ?_
    refine c_seq ?_
    refine c_region ?_
    refine s_y (y_move rfl) rfl rfl ?_
    refine s_y (y_move rfl) rfl rfl ?_
    refine s_d (d_callR T.ent41 (vs := [.string ⟨u.toArray⟩, .string ⟨p.toArray⟩]) rfl (putLogin_ok u p _ (by omega) (by omega)) (by rintro e w' ⟨_, _, _, _, rfl, -⟩; exact ⟨_, rfl⟩)) rfl rfl ?_
    rintro v280 w278 ⟨A271, g272, n273, c274, hv281, f279, rfl, ho276, hwx277⟩
    obtain rfl := ret_inj hv281
    replace hG := hG.fr0 f279
    replace hr := hr.fr0 f279
    replace hw2 := hw2.fr0 f279
    replace b3 := b3.fr0 f279
    replace ho20 := ho20.fr0 f279
    have hF282 := hF26.then0 f279
    have wh283 : A271 = none ∨ g272 ∈ ([] : List Nat) ∨ w.heap.size ≤ g272 := hwx277.imp id fun h => .inr (Nat.le_trans hF26.size h)
    refine s_y (y_move rfl) rfl rfl ?_
    refine s_y (y_extract rfl rfl) rfl rfl ?_
    refine s_y (y_extract rfl rfl) rfl rfl ?_
    refine s_y (y_assign rfl) rfl rfl ?_
    refine s_y (y_assign rfl) rfl rfl ?_
    refine s_nil ?_
    refine n_then ?_
    refine c_seq ?_
    refine c_region ?_
    refine s_y (y_move rfl) rfl rfl ?_
    refine s_y (y_eql rfl rfl rfl) rfl rfl ?_
    refine s_nil ?_
    refine n_then ?_
    refine c_cond rfl ?_ ?_
    · intro h284
      replace h284 : ((putLoginL u p).2 : Int) = 0 := of_decide_eq_true h284
      have hlb := login_back u p more (by assumption)
      refine c_seq ?_
      refine c_region ?_
      refine s_y (y_move rfl) rfl rfl ?_
      refine s_d (d_callR T.ent16 (vs := [.slice A271 (putLoginL u p).1.length c274]) rfl (bytes_ok A271 g272 0 c274 (putLoginL u p).1 _ (by omega) ho276.row) (by rintro e w' ⟨_, _, _, rfl, -⟩; exact ⟨_, rfl⟩)) rfl rfl ?_
      rintro v292 w290 ⟨A285, g286, c287, hv293, f291, ho288, hwx289⟩
      obtain rfl := ret_inj hv293
      replace hG := hG.fr0 f291
      replace hr := hr.fr0 f291
      replace hw2 := hw2.fr0 f291
      replace b3 := b3.fr0 f291
      replace ho20 := ho20.fr0 f291
      replace ho276 := ho276.fr0 f291
      have hF294 := hF282.then0 f291
      have wh295 : A285 = none ∨ g286 ∈ ([] : List Nat) ∨ w.heap.size ≤ g286 := hwx289.imp id fun h => .inr (Nat.le_trans hF282.size h)
      refine s_y (y_move rfl) rfl rfl ?_
      refine s_d (d_append Tryd.underlying22 T.ty5 T.app5 rfl ho288 rfl (src_row Tryd.underlying22 T.ty5 hw2 ()) (ones (by first | exact all_bv _ | exact all_wv _ | exact rfl | simp [all_bv, all_u32])) (by omega)) rfl rfl ?_
      rintro _ w299 ⟨A296, g297, c298, rfl, o300, f301, hat302⟩
      replace o300 : Own w299 A296 g297 ((putLoginL u p).1.length + more.length) c298 5 1 (((putLoginL u p).1 ++ more).map bv) := (by rw [List.map_append]; exact o300)
      obtain ⟨hno300⟩ : Nonempty ((putLoginL u p).1.length + more.length = ((putLoginL u p).1 ++ more).length) := ⟨(by simp only [List.length_append, List.length_cons, List.length_nil] <;> omega)⟩
      rw [hno300] at o300 ⊢
      replace hr := hr.fr f301 (row_app (wh_nw wh295) lt_hr)
      replace hw2 := hw2.fr f301 (row_app (wh_nw wh295) lt_hw2)
      replace hG := hG.fr f301 (not4 wh295 hG4)
      have ne304 := app_ap hat302 (ho288.ne_blk b3 (by decide)) b3.lt
      replace b3 := b3.fr f301 (no_own (ho288.ne_blk b3 (by decide)))
      have wh305 : A296 = none ∨ g297 ∈ ([] : List Nat) ∨ w.heap.size ≤ g297 := app_wh hat302 wh295 hF294.size
      have hF306 := hF294.thenOwnIn f301 wh295
      refine s_d (d_callR T.ent30 (vs := [.slice A296 ((putLoginL u p).1 ++ more).length c298]) rfl (login_ok A296 g297 0 c298 ((putLoginL u p).1 ++ more) _ (by first | omega | (fail)) o300.cap o300.row) (by rintro e w' ⟨_, _, _, _, rfl, -⟩; exact ⟨_, rfl⟩)) rfl rfl ?_
      rintro v317 w315 ⟨u307, p308, v309, x310, hv318, f316, ha319⟩
      obtain rfl := ret_inj hv318
      rcases ha319 with ⟨-, rfl, hu311, hp312, hx313⟩ | ⟨_, -, -, -, -, -, hfa314⟩
      ·
        obtain rfl : u = u307 := by rw [hlb] at hu311; exact hu311.symm
        obtain rfl : p = p308 := by rw [hlb] at hp312; exact hp312.symm
        obtain rfl : x310 = ↑((putLoginL u p).1.length : Nat) := by rw [hlb] at hx313; exact hx313
        replace hG := hG.fr0 f316
        replace hr := hr.fr0 f316
        replace hw2 := hw2.fr0 f316
        replace b3 := b3.fr0 f316
        replace o300 := o300.fr0 f316
        have hF320 := hF306.then0 f316
        refine s_y (y_move rfl) rfl rfl ?_
        refine s_y (y_extract rfl rfl) rfl rfl ?_
        refine s_y (y_extract rfl rfl) rfl rfl ?_
        refine s_y (y_extract rfl rfl) rfl rfl ?_
        refine s_y (y_extract rfl rfl) rfl rfl ?_
        refine s_y (y_assign rfl) rfl rfl ?_
        refine s_y (y_assign rfl) rfl rfl ?_
        refine s_y (y_assign rfl) rfl rfl ?_
        refine s_y (y_assign rfl) rfl rfl ?_
        refine s_nil ?_
        refine n_then ?_
        refine c_seq ?_
        refine c_region ?_
        refine s_y (y_move rfl) rfl rfl ?_
        refine s_y (y_iix Tryd.underlying31 rfl) rfl rfl ?_
        refine s_y (y_move rfl) rfl rfl ?_
        refine s_gy (y_move rfl) ⟨_, _, _, _, rfl, rfl, rfl, rfl⟩ rfl ?_
        refine s_gy (y_move rfl) ⟨_, _, _, _, rfl, rfl, rfl, rfl⟩ rfl ?_
        refine s_gy (y_len Tryd.underlying22 rfl) ⟨_, _, _, _, rfl, rfl, rfl, rfl⟩ rfl ?_
        refine s_gy (y_neq (r := false) rfl rfl (by simp)) ⟨_, _, _, _, rfl, rfl, rfl, rfl⟩ rfl ?_
        refine s_y (y_pick rfl rfl rfl rfl) rfl rfl ?_
        refine s_y (y_move rfl) rfl rfl ?_
        refine s_gy (y_move rfl) ⟨_, _, _, _, rfl, rfl, rfl, rfl⟩ rfl ?_
        refine s_gy (y_move rfl) ⟨_, _, _, _, rfl, rfl, rfl, rfl⟩ rfl ?_
        refine s_gy (y_sneq (r := false) rfl rfl (by simp)) ⟨_, _, _, _, rfl, rfl, rfl, rfl⟩ rfl ?_
        refine s_y (y_pick rfl rfl rfl rfl) rfl rfl ?_
        refine s_y (y_move rfl) rfl rfl ?_
        refine s_gy (y_move rfl) ⟨_, _, _, _, rfl, rfl, rfl, rfl⟩ rfl ?_
        refine s_gy (y_move rfl) ⟨_, _, _, _, rfl, rfl, rfl, rfl⟩ rfl ?_
        refine s_gy (y_sneq (r := false) rfl rfl (by simp)) ⟨_, _, _, _, rfl, rfl, rfl, rfl⟩ rfl ?_
        refine s_y (y_pick rfl rfl rfl rfl) rfl rfl ?_
        refine s_nil ?_
        refine n_then ?_
        refine c_false rfl ?_
        refine c_skip ?_
        refine n_then ?_
        refine c_seq ?_
        refine c_region ?_
        refine s_y (y_move rfl) rfl rfl ?_
        refine s_y (y_ldBA (xs := [.int .u8 ↑d.h.ad.a.toNat, .int .u8 ↑d.h.ad.b.toNat, .int .u8 ↑d.h.ad.c.toNat, .int .u8 ↑d.h.ad.d.toNat, .string ⟨d.h.n.toArray⟩, .int .i64 d.p]) T.ty29 rfl b3 rfl rfl) rfl rfl ?_
        refine s_d (d_callR T.ent20 (vs := [.int .i64 n, _]) rfl (putReq_ok n d _ (by omega) hG) (by rintro e w' ⟨_, _, _, _, rfl, -⟩; exact ⟨_, rfl⟩)) rfl rfl ?_
        rintro v330 w328 ⟨A321, g322, n323, c324, hv331, f329, rfl, ho326, hwx327⟩
        obtain rfl := ret_inj hv331
        replace hG := hG.fr0 f329
        replace hr := hr.fr0 f329
        replace hw2 := hw2.fr0 f329
        replace b3 := b3.fr0 f329
        have hF332 := hF320.then0 f329
        have wh333 : A321 = none ∨ g322 ∈ ([] : List Nat) ∨ w.heap.size ≤ g322 := hwx327.imp id fun h => .inr (Nat.le_trans hF320.size h)
        refine s_y (y_move rfl) rfl rfl ?_
        refine s_y (y_extract rfl rfl) rfl rfl ?_
        refine s_y (y_extract rfl rfl) rfl rfl ?_
        refine s_y (y_assign rfl) rfl rfl ?_
        refine s_y (y_assign rfl) rfl rfl ?_
        refine s_nil ?_
        refine n_then ?_
        refine c_seq ?_
        refine c_seq ?_
        refine c_region ?_
        refine s_y (y_move rfl) rfl rfl ?_
        refine s_y (y_neq rfl rfl rfl) rfl rfl ?_
        refine s_nil ?_
        refine n_then ?_
        refine c_cond rfl ?_ ?_
        · intro h334
          replace h334 : ((putReqL n d).2 : Int) ≠ 0 := of_decide_eq_true h334
          refine c_seq ?_
          refine c_region ?_
          refine s_y (y_move rfl) rfl rfl ?_
          refine s_y (y_len Tryd.underlying22 rfl) rfl rfl ?_
          refine s_y (y_eql rfl rfl rfl) rfl rfl ?_
          refine s_y (y_assign rfl) rfl rfl ?_
          refine s_nil ?_
          refine n_then ?_
          refine c_ret ?_
          refine r_then ?_
          refine fin1 (by simp) rfl rfl ?_
          exact ⟨by rw [show decide (((↑(putReqL n d).1.length) : Int) = 0) = true from decide_eq_true (by first | omega | (have := put_e0 n d (by assumption); omega))] <;> rfl, hF332⟩
        · intro h335
          replace h335 : ((putReqL n d).2 : Int) = 0 := Decidable.not_not.1 (of_decide_eq_false h335)
          have hrb := req_back n d more (by first | assumption | omega)
          have hn0 : (↑n.toNat : Int) = n := by have := (small_of (put_0 n d (by first | assumption | omega)).1).1; omega
          refine c_skip ?_
          refine n_then ?_
          refine c_seq ?_
          refine c_region ?_
          refine s_y (y_move rfl) rfl rfl ?_
          refine s_d (d_callR T.ent16 (vs := [.slice A321 (putReqL n d).1.length c324]) rfl (bytes_ok A321 g322 0 c324 (putReqL n d).1 _ (by omega) ho326.row) (by rintro e w' ⟨_, _, _, rfl, -⟩; exact ⟨_, rfl⟩)) rfl rfl ?_
          rintro v343 w341 ⟨A336, g337, c338, hv344, f342, ho339, hwx340⟩
          obtain rfl := ret_inj hv344
          replace hG := hG.fr0 f342
          replace hr := hr.fr0 f342
          replace hw2 := hw2.fr0 f342
          replace b3 := b3.fr0 f342
          replace ho326 := ho326.fr0 f342
          have hF345 := hF332.then0 f342
          have wh346 : A336 = none ∨ g337 ∈ ([] : List Nat) ∨ w.heap.size ≤ g337 := hwx340.imp id fun h => .inr (Nat.le_trans hF332.size h)
          refine s_y (y_move rfl) rfl rfl ?_
          refine s_d (d_append Tryd.underlying22 T.ty5 T.app5 rfl ho339 rfl (src_row Tryd.underlying22 T.ty5 hw2 ()) (ones (by first | exact all_bv _ | exact all_wv _ | exact rfl | simp [all_bv, all_u32])) (by omega)) rfl rfl ?_
          rintro _ w350 ⟨A347, g348, c349, rfl, o351, f352, hat353⟩
          replace o351 : Own w350 A347 g348 ((putReqL n d).1.length + more.length) c349 5 1 (((putReqL n d).1 ++ more).map bv) := (by rw [List.map_append]; exact o351)
          obtain ⟨hno351⟩ : Nonempty ((putReqL n d).1.length + more.length = ((putReqL n d).1 ++ more).length) := ⟨(by simp only [List.length_append, List.length_cons, List.length_nil] <;> omega)⟩
          rw [hno351] at o351 ⊢
          replace hr := hr.fr f352 (row_app (wh_nw wh346) lt_hr)
          replace hw2 := hw2.fr f352 (row_app (wh_nw wh346) lt_hw2)
          replace hG := hG.fr f352 (not4 wh346 hG4)
          have ne355 := app_ap hat353 (ho339.ne_blk b3 (by decide)) b3.lt
          replace b3 := b3.fr f352 (no_own (ho339.ne_blk b3 (by decide)))
          have wh356 : A347 = none ∨ g348 ∈ ([] : List Nat) ∨ w.heap.size ≤ g348 := app_wh hat353 wh346 hF345.size
          have hF357 := hF345.thenOwnIn f352 wh346
          refine s_d (d_callR T.ent14 (vs := [.slice A347 ((putReqL n d).1 ++ more).length c349]) rfl (request_ok A347 g348 0 c349 ((putReqL n d).1 ++ more) _ (by first | omega | decide | (fail)) o351.cap o351.row hG) (by rintro e w' ⟨_, _, _, _, rfl, -⟩; exact ⟨_, rfl⟩)) rfl rfl ?_
          rintro v371 w369 ⟨d358, v359, c360, x361, hv372, f370, ha373⟩
          obtain rfl := ret_inj hv372
          rcases ha373 with ⟨-, rfl, hc366, hd367, hx368⟩ | ⟨_, -, -, -, -, -, hfa365⟩
          ·
            obtain rfl : c360 = ↑(n.toNat : Nat) := by rw [hrb] at hc366; exact hc366
            obtain rfl : d = d358 := by rw [hrb] at hd367; exact hd367.symm
            obtain rfl : x361 = ↑((putReqL n d).1.length : Nat) := by rw [hrb] at hx368; exact hx368
            replace hG := hG.fr0 f370
            replace hr := hr.fr0 f370
            replace hw2 := hw2.fr0 f370
            replace b3 := b3.fr0 f370
            replace o351 := o351.fr0 f370
            have hF374 := hF357.then0 f370
            refine s_y (y_move rfl) rfl rfl ?_
            refine s_y (y_extract rfl rfl) rfl rfl ?_
            refine s_y (y_extract rfl rfl) rfl rfl ?_
            refine s_y (y_extract rfl rfl) rfl rfl ?_
            refine s_y (y_extract rfl rfl) rfl rfl ?_
            refine s_d (d_alloc (cs := [.int .u8 0, .int .u8 0, .int .u8 0, .int .u8 0, .string ⟨[].toArray⟩, .int .i64 0]) T.zero29 rfl) rfl rfl ?_
            rintro _ w376 ⟨g375, rfl, hg379, b377, f378⟩
            have ne380 := row_ne_new hr hg379
            have ne381 := row_ne_new hw2 hg379
            have ne382 : g1 ≠ g375 := Nat.ne_of_lt (Nat.lt_of_lt_of_le b3.lt hg379)
            have nw383 := Nat.le_trans hF374.size hg379
            replace hG := hG.fr0 f378
            replace hr := hr.fr0 f378
            replace hw2 := hw2.fr0 f378
            replace b3 := b3.fr0 f378
            have hF384 := hF374.then0 f378
            refine s_y (y_assign rfl) rfl rfl ?_
            refine s_d (d_store (cs := [.int .u8 ↑d.h.ad.a.toNat, .int .u8 ↑d.h.ad.b.toNat, .int .u8 ↑d.h.ad.c.toNat, .int .u8 ↑d.h.ad.d.toNat, .string ⟨d.h.n.toArray⟩, .int .i64 d.p]) (l' := [.int .u8 ↑d.h.ad.a.toNat, .int .u8 ↑d.h.ad.b.toNat, .int .u8 ↑d.h.ad.c.toNat, .int .u8 ↑d.h.ad.d.toNat, .string ⟨d.h.n.toArray⟩, .int .i64 d.p]) T.ty29 rfl rfl b377 rfl rfl (ones rfl) (Nat.le_of_ble_eq_true rfl) rfl) rfl rfl ?_
            rintro _ w385 ⟨rfl, b386, f387⟩
            replace hG := hG.fr f387 (by simp only [List.mem_cons, List.not_mem_nil, or_false, not_or]; exact by omega)
            replace hr := hr.fr1 f387 ne380
            replace hw2 := hw2.fr1 f387 ne381
            replace b3 := b3.fr1 f387 ne382
            clear b377
            have hF388 := hF384.thenNew f387 nw383
            refine s_y (y_assign rfl) rfl rfl ?_
            refine s_y (y_assign rfl) rfl rfl ?_
            refine s_nil ?_
            refine n_then ?_
            refine c_seq ?_
            refine c_region ?_
            refine s_y (y_move rfl) rfl rfl ?_
            refine s_y (y_ii Tryd.underlying31 rfl) rfl rfl ?_
            refine s_y (y_move rfl) rfl rfl ?_
            refine s_gy (y_move rfl) ⟨_, _, _, _, rfl, rfl, rfl, rfl⟩ rfl ?_
            refine s_gy (y_move rfl) ⟨_, _, _, _, rfl, rfl, rfl, rfl⟩ rfl ?_
            refine s_gy (y_len Tryd.underlying22 rfl) ⟨_, _, _, _, rfl, rfl, rfl, rfl⟩ rfl ?_
            refine s_gy (y_eql (r := true) rfl rfl (by simp)) ⟨_, _, _, _, rfl, rfl, rfl, rfl⟩ rfl ?_
            refine s_y (y_pick rfl rfl rfl rfl) rfl rfl ?_
            refine s_y (y_move rfl) rfl rfl ?_
            refine s_gy (y_move rfl) ⟨_, _, _, _, rfl, rfl, rfl, rfl⟩ rfl ?_
            refine s_gy (y_move rfl) ⟨_, _, _, _, rfl, rfl, rfl, rfl⟩ rfl ?_
            refine s_gy (y_eql rfl rfl rfl) ⟨_, _, _, _, rfl, rfl, rfl, rfl⟩ rfl ?_
            refine s_y (y_pick rfl rfl rfl rfl) rfl rfl ?_
            refine s_y (y_move rfl) rfl rfl ?_
            refine wl_bool (decide ((↑n.toNat : Int) = n)) ?_ ?_
            · intro hb389
              rw [hb389]
              have hp390 : (↑n.toNat : Int) = n := of_decide_eq_true hb389
              clear hb389
              refine s_gy (y_ldBA (xs := [.int .u8 ↑d.h.ad.a.toNat, .int .u8 ↑d.h.ad.b.toNat, .int .u8 ↑d.h.ad.c.toNat, .int .u8 ↑d.h.ad.d.toNat, .string ⟨d.h.n.toArray⟩, .int .i64 d.p]) T.ty29 rfl b386 rfl rfl) ⟨_, _, _, _, rfl, rfl, rfl, rfl⟩ rfl ?_
              refine s_gy (y_ldBA (xs := [.int .u8 ↑d.h.ad.a.toNat, .int .u8 ↑d.h.ad.b.toNat, .int .u8 ↑d.h.ad.c.toNat, .int .u8 ↑d.h.ad.d.toNat, .string ⟨d.h.n.toArray⟩, .int .i64 d.p]) T.ty29 rfl b3 rfl rfl) ⟨_, _, _, _, rfl, rfl, rfl, rfl⟩ rfl ?_
              refine s_gy (y_eqA (r := true) (eq29 d d) rfl rfl (by rw [decide_eq_true rfl])) ⟨_, _, _, _, rfl, rfl, rfl, rfl⟩ rfl ?_
              refine s_y (y_pick rfl rfl rfl rfl) rfl rfl ?_
              refine s_y (y_assign rfl) rfl rfl ?_
              refine s_nil ?_
              refine n_then ?_
              refine c_ret ?_
              refine fin1 (by simp) rfl rfl ?_
              exact ⟨rfl, hF388⟩
            · intro hb389
              rw [hb389]
              have hp391 : ¬ ((↑n.toNat : Int) = n) := of_decide_eq_false hb389
              clear hb389
              refine s_skip ⟨_, _, _, _, rfl, rfl, rfl, rfl⟩ rfl ?_
              refine s_skip ⟨_, _, _, _, rfl, rfl, rfl, rfl⟩ rfl ?_
              refine s_skip ⟨_, _, _, _, rfl, rfl, rfl, rfl⟩ rfl ?_
              refine s_y (y_pick rfl rfl rfl rfl) rfl rfl ?_
              refine s_y (y_assign rfl) rfl rfl ?_
              refine s_nil ?_
              refine n_then ?_
              refine c_ret ?_
              refine fin1 (by simp) rfl rfl ?_
              exfalso; first | omega | exact absurd rfl ‹¬ (_ = _)›
          · (rw [hrb] at hfa365; exact hfa365.elim)
      · (rw [hlb] at hfa314; exact hfa314.elim)
    · intro h392
      replace h392 : ¬ (((putLoginL u p).2 : Int) = 0) := of_decide_eq_false h392
      refine c_skip ?_
      refine n_then ?_
      refine c_seq ?_
      refine c_region ?_
      refine s_y (y_move rfl) rfl rfl ?_
      refine s_y (y_ldBA (xs := [.int .u8 ↑d.h.ad.a.toNat, .int .u8 ↑d.h.ad.b.toNat, .int .u8 ↑d.h.ad.c.toNat, .int .u8 ↑d.h.ad.d.toNat, .string ⟨d.h.n.toArray⟩, .int .i64 d.p]) T.ty29 rfl b3 rfl rfl) rfl rfl ?_
      refine s_d (d_callR T.ent20 (vs := [.int .i64 n, _]) rfl (putReq_ok n d _ (by omega) hG) (by rintro e w' ⟨_, _, _, _, rfl, -⟩; exact ⟨_, rfl⟩)) rfl rfl ?_
      rintro v402 w400 ⟨A393, g394, n395, c396, hv403, f401, rfl, ho398, hwx399⟩
      obtain rfl := ret_inj hv403
      replace hG := hG.fr0 f401
      replace hr := hr.fr0 f401
      replace hw2 := hw2.fr0 f401
      replace b3 := b3.fr0 f401
      replace ho20 := ho20.fr0 f401
      replace ho276 := ho276.fr0 f401
      have hF404 := hF282.then0 f401
      have wh405 : A393 = none ∨ g394 ∈ ([] : List Nat) ∨ w.heap.size ≤ g394 := hwx399.imp id fun h => .inr (Nat.le_trans hF282.size h)
      refine s_y (y_move rfl) rfl rfl ?_
      refine s_y (y_extract rfl rfl) rfl rfl ?_
      refine s_y (y_extract rfl rfl) rfl rfl ?_
      refine s_y (y_assign rfl) rfl rfl ?_
      refine s_y (y_assign rfl) rfl rfl ?_
      refine s_nil ?_
      refine n_then ?_
      refine c_seq ?_
      refine c_seq ?_
      refine c_region ?_
      refine s_y (y_move rfl) rfl rfl ?_
      refine s_y (y_neq rfl rfl rfl) rfl rfl ?_
      refine s_nil ?_
      refine n_then ?_
      refine c_cond rfl ?_ ?_
      · intro h406
        replace h406 : ((putReqL n d).2 : Int) ≠ 0 := of_decide_eq_true h406
        refine c_seq ?_
        refine c_region ?_
        refine s_y (y_move rfl) rfl rfl ?_
        refine s_y (y_len Tryd.underlying22 rfl) rfl rfl ?_
        refine s_y (y_eql rfl rfl rfl) rfl rfl ?_
        refine s_y (y_assign rfl) rfl rfl ?_
        refine s_nil ?_
        refine n_then ?_
        refine c_ret ?_
        refine r_then ?_
        refine fin1 (by simp) rfl rfl ?_
        exact ⟨by rw [show decide (((↑(putReqL n d).1.length) : Int) = 0) = true from decide_eq_true (by first | omega | (have := put_e0 n d (by assumption); omega))] <;> rfl, hF404⟩
      · intro h407
        replace h407 : ((putReqL n d).2 : Int) = 0 := Decidable.not_not.1 (of_decide_eq_false h407)
        have hrb := req_back n d more (by first | assumption | omega)
        have hn0 : (↑n.toNat : Int) = n := by have := (small_of (put_0 n d (by first | assumption | omega)).1).1; omega
        refine c_skip ?_
        refine n_then ?_
        refine c_seq ?_
        refine c_region ?_
        refine s_y (y_move rfl) rfl rfl ?_
        refine s_d (d_callR T.ent16 (vs := [.slice A393 (putReqL n d).1.length c396]) rfl (bytes_ok A393 g394 0 c396 (putReqL n d).1 _ (by omega) ho398.row) (by rintro e w' ⟨_, _, _, rfl, -⟩; exact ⟨_, rfl⟩)) rfl rfl ?_
        rintro v415 w413 ⟨A408, g409, c410, hv416, f414, ho411, hwx412⟩
        obtain rfl := ret_inj hv416
        replace hG := hG.fr0 f414
        replace hr := hr.fr0 f414
        replace hw2 := hw2.fr0 f414
        replace b3 := b3.fr0 f414
        replace ho20 := ho20.fr0 f414
        replace ho276 := ho276.fr0 f414
        replace ho398 := ho398.fr0 f414
        have hF417 := hF404.then0 f414
        have wh418 : A408 = none ∨ g409 ∈ ([] : List Nat) ∨ w.heap.size ≤ g409 := hwx412.imp id fun h => .inr (Nat.le_trans hF404.size h)
        refine s_y (y_move rfl) rfl rfl ?_
        refine s_d (d_append Tryd.underlying22 T.ty5 T.app5 rfl ho411 rfl (src_row Tryd.underlying22 T.ty5 hw2 ()) (ones (by first | exact all_bv _ | exact all_wv _ | exact rfl | simp [all_bv, all_u32])) (by omega)) rfl rfl ?_
        rintro _ w422 ⟨A419, g420, c421, rfl, o423, f424, hat425⟩
        replace o423 : Own w422 A419 g420 ((putReqL n d).1.length + more.length) c421 5 1 (((putReqL n d).1 ++ more).map bv) := (by rw [List.map_append]; exact o423)
        obtain ⟨hno423⟩ : Nonempty ((putReqL n d).1.length + more.length = ((putReqL n d).1 ++ more).length) := ⟨(by simp only [List.length_append, List.length_cons, List.length_nil] <;> omega)⟩
        rw [hno423] at o423 ⊢
        replace hr := hr.fr f424 (row_app (wh_nw wh418) lt_hr)
        replace hw2 := hw2.fr f424 (row_app (wh_nw wh418) lt_hw2)
        replace hG := hG.fr f424 (not4 wh418 hG4)
        have ne427 := app_ap hat425 (ho411.ne_blk b3 (by decide)) b3.lt
        replace b3 := b3.fr f424 (no_own (ho411.ne_blk b3 (by decide)))
        have wh428 : A419 = none ∨ g420 ∈ ([] : List Nat) ∨ w.heap.size ≤ g420 := app_wh hat425 wh418 hF417.size
        have hF429 := hF417.thenOwnIn f424 wh418
        refine s_d (d_callR T.ent14 (vs := [.slice A419 ((putReqL n d).1 ++ more).length c421]) rfl (request_ok A419 g420 0 c421 ((putReqL n d).1 ++ more) _ (by first | omega | decide | (fail)) o423.cap o423.row hG) (by rintro e w' ⟨_, _, _, _, rfl, -⟩; exact ⟨_, rfl⟩)) rfl rfl ?_
        rintro v443 w441 ⟨d430, v431, c432, x433, hv444, f442, ha445⟩
        obtain rfl := ret_inj hv444
        rcases ha445 with ⟨-, rfl, hc438, hd439, hx440⟩ | ⟨_, -, -, -, -, -, hfa437⟩
        ·
          obtain rfl : c432 = ↑(n.toNat : Nat) := by rw [hrb] at hc438; exact hc438
          obtain rfl : d = d430 := by rw [hrb] at hd439; exact hd439.symm
          obtain rfl : x433 = ↑((putReqL n d).1.length : Nat) := by rw [hrb] at hx440; exact hx440
          replace hG := hG.fr0 f442
          replace hr := hr.fr0 f442
          replace hw2 := hw2.fr0 f442
          replace b3 := b3.fr0 f442
          replace o423 := o423.fr0 f442
          have hF446 := hF429.then0 f442
          refine s_y (y_move rfl) rfl rfl ?_
          refine s_y (y_extract rfl rfl) rfl rfl ?_
          refine s_y (y_extract rfl rfl) rfl rfl ?_
          refine s_y (y_extract rfl rfl) rfl rfl ?_
          refine s_y (y_extract rfl rfl) rfl rfl ?_
          refine s_d (d_alloc (cs := [.int .u8 0, .int .u8 0, .int .u8 0, .int .u8 0, .string ⟨[].toArray⟩, .int .i64 0]) T.zero29 rfl) rfl rfl ?_
          rintro _ w448 ⟨g447, rfl, hg451, b449, f450⟩
          have ne452 := row_ne_new hr hg451
          have ne453 := row_ne_new hw2 hg451
          have ne454 : g1 ≠ g447 := Nat.ne_of_lt (Nat.lt_of_lt_of_le b3.lt hg451)
          have nw455 := Nat.le_trans hF446.size hg451
          replace hG := hG.fr0 f450
          replace hr := hr.fr0 f450
          replace hw2 := hw2.fr0 f450
          replace b3 := b3.fr0 f450
          have hF456 := hF446.then0 f450
          refine s_y (y_assign rfl) rfl rfl ?_
          refine s_d (d_store (cs := [.int .u8 ↑d.h.ad.a.toNat, .int .u8 ↑d.h.ad.b.toNat, .int .u8 ↑d.h.ad.c.toNat, .int .u8 ↑d.h.ad.d.toNat, .string ⟨d.h.n.toArray⟩, .int .i64 d.p]) (l' := [.int .u8 ↑d.h.ad.a.toNat, .int .u8 ↑d.h.ad.b.toNat, .int .u8 ↑d.h.ad.c.toNat, .int .u8 ↑d.h.ad.d.toNat, .string ⟨d.h.n.toArray⟩, .int .i64 d.p]) T.ty29 rfl rfl b449 rfl rfl (ones rfl) (Nat.le_of_ble_eq_true rfl) rfl) rfl rfl ?_
          rintro _ w457 ⟨rfl, b458, f459⟩
          replace hG := hG.fr f459 (by simp only [List.mem_cons, List.not_mem_nil, or_false, not_or]; exact by omega)
          replace hr := hr.fr1 f459 ne452
          replace hw2 := hw2.fr1 f459 ne453
          replace b3 := b3.fr1 f459 ne454
          clear b449
          have hF460 := hF456.thenNew f459 nw455
          refine s_y (y_assign rfl) rfl rfl ?_
          refine s_y (y_assign rfl) rfl rfl ?_
          refine s_nil ?_
          refine n_then ?_
          refine c_seq ?_
          refine c_region ?_
          refine s_y (y_move rfl) rfl rfl ?_
          refine s_y (y_ii Tryd.underlying31 rfl) rfl rfl ?_
          refine s_y (y_move rfl) rfl rfl ?_
          refine s_gy (y_move rfl) ⟨_, _, _, _, rfl, rfl, rfl, rfl⟩ rfl ?_
          refine s_gy (y_move rfl) ⟨_, _, _, _, rfl, rfl, rfl, rfl⟩ rfl ?_
          refine s_gy (y_len Tryd.underlying22 rfl) ⟨_, _, _, _, rfl, rfl, rfl, rfl⟩ rfl ?_
          refine s_gy (y_eql (r := true) rfl rfl (by simp)) ⟨_, _, _, _, rfl, rfl, rfl, rfl⟩ rfl ?_
          refine s_y (y_pick rfl rfl rfl rfl) rfl rfl ?_
          refine s_y (y_move rfl) rfl rfl ?_
          refine s_gy (y_move rfl) ⟨_, _, _, _, rfl, rfl, rfl, rfl⟩ rfl ?_
          refine s_gy (y_move rfl) ⟨_, _, _, _, rfl, rfl, rfl, rfl⟩ rfl ?_
          refine s_gy (y_eql rfl rfl rfl) ⟨_, _, _, _, rfl, rfl, rfl, rfl⟩ rfl ?_
          refine s_y (y_pick rfl rfl rfl rfl) rfl rfl ?_
          refine s_y (y_move rfl) rfl rfl ?_
          refine wl_bool (decide ((↑n.toNat : Int) = n)) ?_ ?_
          · intro hb461
            rw [hb461]
            have hp462 : (↑n.toNat : Int) = n := of_decide_eq_true hb461
            clear hb461
            refine s_gy (y_ldBA (xs := [.int .u8 ↑d.h.ad.a.toNat, .int .u8 ↑d.h.ad.b.toNat, .int .u8 ↑d.h.ad.c.toNat, .int .u8 ↑d.h.ad.d.toNat, .string ⟨d.h.n.toArray⟩, .int .i64 d.p]) T.ty29 rfl b458 rfl rfl) ⟨_, _, _, _, rfl, rfl, rfl, rfl⟩ rfl ?_
            refine s_gy (y_ldBA (xs := [.int .u8 ↑d.h.ad.a.toNat, .int .u8 ↑d.h.ad.b.toNat, .int .u8 ↑d.h.ad.c.toNat, .int .u8 ↑d.h.ad.d.toNat, .string ⟨d.h.n.toArray⟩, .int .i64 d.p]) T.ty29 rfl b3 rfl rfl) ⟨_, _, _, _, rfl, rfl, rfl, rfl⟩ rfl ?_
            refine s_gy (y_eqA (r := true) (eq29 d d) rfl rfl (by rw [decide_eq_true rfl])) ⟨_, _, _, _, rfl, rfl, rfl, rfl⟩ rfl ?_
            refine s_y (y_pick rfl rfl rfl rfl) rfl rfl ?_
            refine s_y (y_assign rfl) rfl rfl ?_
            refine s_nil ?_
            refine n_then ?_
            refine c_ret ?_
            refine fin1 (by simp) rfl rfl ?_
            exact ⟨rfl, hF460⟩
          · intro hb461
            rw [hb461]
            have hp463 : ¬ ((↑n.toNat : Int) = n) := of_decide_eq_false hb461
            clear hb461
            refine s_skip ⟨_, _, _, _, rfl, rfl, rfl, rfl⟩ rfl ?_
            refine s_skip ⟨_, _, _, _, rfl, rfl, rfl, rfl⟩ rfl ?_
            refine s_skip ⟨_, _, _, _, rfl, rfl, rfl, rfl⟩ rfl ?_
            refine s_y (y_pick rfl rfl rfl rfl) rfl rfl ?_
            refine s_y (y_assign rfl) rfl rfl ?_
            refine s_nil ?_
            refine n_then ?_
            refine c_ret ?_
            refine fin1 (by simp) rfl rfl ?_
            exfalso; first | omega | exact absurd rfl ‹¬ (_ = _)›
        · (rw [hrb] at hfa437; exact hfa437.elim)

end Go.Proofs.YtcnepgnfecoeoaaDoor
