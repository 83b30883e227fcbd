/- Messages read: a greeting, a request. No condition. -/
import Derived.Test.YtcnepgnfecoeoaaDoorE
import Derived.Test.YtcnepgnfecoeoaaDoorGMem4
import Derived.Test.YtcnepgnfecoeoaaDoorFT
import Derived.Test.YtcnepgnfecoeoaaDoorProg
set_option linter.unusedVariables false
set_option linter.unusedSimpArgs false
namespace Go.Proofs.YtcnepgnfecoeoaaDoor
open Go Go.Proofs.GP Go.Proofs.Tryd
set_option maxHeartbeats 8000000 in
set_option maxRecDepth 100000 in
theorem greet_ok (A : Option Addr) (g o c : Nat) (b : By) (w : World) (hb : b.length ≤ 9223372036854775807) (hc : b.length ≤ c) (hw : Row w A g o b.length 1 (b.map bv)) :
    Calls Tryd.prog 27 #[.slice A b.length c] w fun e w' => ∃ A' g' n' c' v, ∃ x : Int, e = .returned (.tuple #[.slice A' n' c', .int .i64 x, v]) ∧ Fr [] w w' ∧ (((greetL b).2.2 = .no ∧ v = .nilIface ∧ x = ↑(greetL b).2.1 ∧ n' = (greetL b).1.length ∧ Own w' A' g' n' c' 3 1 (((greetL b).1.map gi).map jv) ∧ (A' = none ∨ w.heap.size ≤ g')) ∨ (∃ gE, A' = none ∧ n' = 0 ∧ c' = 0 ∧ x = 0 ∧ v = .iface 136 (.pointer (some ⟨gE, 0, none⟩)) ∧ w.heap.size ≤ gE ∧ FaultAt w' 138 136 39 gE (greetL b).2.2)) := by
  refine c_start (args := [.slice A b.length c]) Tryd.func27 rfl rfl rfl ?_
  try simp only [enum, Nat.zero_add, Nat.reduceAdd]
  have hF0 := Fr.refl [] w
  have lt_hw := hw.lt'
  refine c_seq ?_
  refine c_region ?_
  refine s_y (y_assign rfl) rfl rfl ?_
  refine s_y (y_assign rfl) rfl rfl ?_
  refine s_y (y_assign rfl) rfl rfl ?_
  refine s_nil ?_
  refine n_then ?_
  refine c_seq ?_
  refine c_region ?_
  refine s_y (y_move rfl) rfl rfl ?_
  refine s_y (y_build (vs := [(0, .slice A b.length c)]) rfl (by apply T.lit6)) rfl rfl ?_
  refine s_d (d_box (cs := [.slice A b.length c, .int .i64 0, .nilIface]) rfl rfl) rfl rfl ?_
  rintro _ w2 ⟨g1, rfl, hg5, b3, f4⟩
  have ne6 := row_ne_new hw hg5
  have nw7 := Nat.le_trans hF0.size hg5
  replace hw := hw.fr0 f4
  have hF8 := hF0.then0 f4
  refine s_y (y_assign rfl) rfl rfl ?_
  refine s_nil ?_
  refine n_then ?_
  refine c_seq ?_
  refine c_region ?_
  refine s_y (y_move rfl) rfl rfl ?_
  refine s_d (d_callR T.ent59 (vs := [.pointer (some ⟨g1, 0, none⟩), .int .i64 5]) rfl (version_ok g1 5 A g o c b _ hb hc ne6 b3 hw) (by rintro e w' ⟨rfl, -⟩; exact ⟨_, rfl⟩)) rfl rfl ?_
  rintro v19 w17 ⟨hv20, f18, ha21⟩
  obtain rfl := ret_inj hv20
  rcases ha21 with ⟨hv9, hlen10, hr11⟩ | ⟨at12, gE13, hg14, hr15, hfa16⟩
  ·
    replace hw := hw.fr1 f18 ne6
    clear b3
    have hF22 := hF8.thenNew f18 nw7
    refine s_nil ?_
    refine n_then ?_
    refine c_seq ?_
    refine c_region ?_
    refine s_y (y_move rfl) rfl rfl ?_
    refine s_d (d_callR T.ent75 (vs := [.pointer (some ⟨g1, 0, none⟩), .int .i64 255]) rfl (text_ok g1 1 255 A g o c b _ (by omega) (by omega) hb hc ne6 hr11 hw) (by rintro e w' ⟨_, rfl, -⟩; exact ⟨_, rfl⟩)) rfl rfl ?_
    rintro v34 w32 ⟨sv23, hv35, f33, ha36⟩
    obtain rfl := ret_inj hv35
    rcases ha36 with ⟨hno24, rfl, hr25⟩ | ⟨at26, gE27, hg28, hr29, hfa30⟩
    ·
      replace hw := hw.fr1 f33 ne6
      clear hr11
      have hF37 := hF22.thenNew f33 nw7
      have he31 := text_end b 1 255 hno24
      refine s_y (y_assign rfl) rfl rfl ?_
      refine s_nil ?_
      refine n_then ?_
      refine c_seq ?_
      refine c_seq ?_
      refine c_region ?_
      refine s_y (y_move rfl) rfl rfl ?_
      refine s_y (y_nilCheck rfl) rfl rfl ?_
      refine s_y (y_field rfl T.fld99_2 rfl) rfl rfl ?_
      refine s_y (y_ldB T.ty31 rfl hr25 rfl) rfl rfl ?_
      refine s_y (y_iix Tryd.underlying31 rfl) rfl rfl ?_
      refine s_nil ?_
      refine n_then ?_
      refine c_false rfl ?_
      refine c_skip ?_
      refine n_then ?_
      refine c_seq ?_
      refine c_region ?_
      refine s_y (y_assign rfl) rfl rfl ?_
      refine s_nil ?_
      refine n_then ?_
      refine c_seq ?_
      refine c_seq ?_
      refine c_region ?_
      refine s_y (y_move rfl) rfl rfl ?_
      refine s_y (y_lenS Tryd.underlying9 rfl) rfl rfl ?_
      refine s_y (y_move rfl) rfl rfl ?_
      refine s_nil ?_
      refine n_then ?_
      refine c_block ?_
      refine c_loop (fun m a W => ∃ i : Nat, ∃ A' : Option Addr, ∃ g' : Nat, ∃ c' : Nat, m = (textL b 1 255).1.length - i ∧ GP.St 43 [(0, .slice A b.length c), (5, .pointer (some ⟨g1, 0, none⟩)), (6, .string ⟨(textL b 1 255).1.toArray⟩), (7, .slice A' i c'), (26, .int .i64 (↑(textL b 1 255).1.length)), (27, .int .i64 ↑i)] a ∧ Fr [] w W ∧ Row W A g o b.length 1 (b.map bv) ∧ Blk W g1 99 [.slice A b.length c, .int .i64 (↑(textL b 1 255).2.1), .nilIface] ∧ Own W A' g' i c' 3 1 ((((textL b 1 255).1.take i).map gi).map jv) ∧ (i ≤ (textL b 1 255).1.length) ∧ (A' = none ∨ g' ∈ ([] : List Nat) ∨ w.heap.size ≤ g')) ((textL b 1 255).1.length) ?_ ?_
      · intro a ha
        exact ⟨0, none, 0, 0, rfl, ha.cut ⟨rfl, rfl, rfl, rfl, rfl, rfl, trivial⟩, hF37, hw, hr25, (Own.nil _ _ 3 1), Nat.zero_le _, .inl rfl⟩
      · rintro _ a W38 ⟨i, A', g', c', rfl, hst40, hF41, hw, hr25, ho, hi, wh⟩
        refine (show Wc _ _ _ _ _ _ from ?_) a hst40
        clear hst40 a
        refine c_seq ?_
        refine c_region ?_
        refine s_y (y_lss rfl rfl rfl) rfl rfl ?_
        refine s_nil ?_
        refine n_then ?_
        refine c_seq ?_
        refine c_cond rfl ?_ ?_
        · intro h42
          replace h42 : (↑i : Int) < (↑(textL b 1 255).1.length) := of_decide_eq_true h42
          refine c_skip ?_
          refine n_then ?_
          refine c_seq ?_
          refine c_block ?_
          refine c_seq ?_
          refine c_region ?_
          refine s_y (y_move rfl) rfl rfl ?_
          refine s_y (y_assign rfl) rfl rfl ?_
          refine s_nil ?_
          refine n_then ?_
          refine c_region ?_
          refine s_y (y_move rfl) rfl rfl ?_
          refine s_y (y_move rfl) rfl rfl ?_
          refine s_y (y_move rfl) rfl rfl ?_
          refine s_y (y_indexS (b := (textL b 1 255).1.getD i 0) Tryd.underlying9 rfl rfl (by omega) (str_at _ i (by omega))) rfl rfl ?_
          refine s_y (y_convb_i64 Tryd.underlying5 Tryd.underlying3 rfl) rfl rfl ?_
          have hlit43 := (T.lit2 (↑((textL b 1 255).1.getD i 0).toNat))
          refine s_d (d_bs2 hlit43 ⟨rfl, rfl, trivial⟩) rfl rfl ?_
          rintro _ w45 ⟨g44, rfl, hg48, b46, f47⟩
          have ne49 := row_ne_new hw hg48
          have ne50 : g1 ≠ g44 := Nat.ne_of_lt (Nat.lt_of_lt_of_le hr25.lt hg48)
          have ne51 := ho.ne_new hg48
          have nw52 := Nat.le_trans hF41.size hg48
          replace hw := hw.fr0 f47
          replace hr25 := hr25.fr0 f47
          replace ho := ho.fr0 f47
          have hF53 := hF41.then0 f47
          have o54 := Own.of_blk (n := 1) (k := 1) b46 rfl (by decide)
          refine s_d (d_append Tryd.underlying53 T.ty3 T.app3 rfl ho rfl (src_row Tryd.underlying53 T.ty3 o54.row ()) (ones (by first | exact all_bv _ | exact all_wv _ | exact rfl | simp [all_bv, all_u32])) (by omega)) rfl rfl ?_
          rintro _ w58 ⟨A55, g56, c57, rfl, o59, f60, hat61⟩
          replace o59 : Own w58 A55 g56 (i + 1) c57 3 1 ((((textL b 1 255).1.take (i + 1)).map gi).map jv) := (by rw [take_gi _ _ (by omega), List.map_append]; exact o59)
          replace hw := hw.fr f60 (row_app (wh_nw wh) lt_hw)
          have ne63 := app_ap hat61 (ho.ne_blk hr25 (by decide)) hr25.lt
          replace hr25 := hr25.fr f60 (no_own (ho.ne_blk hr25 (by decide)))
          have wh64 : A55 = none ∨ g56 ∈ ([] : List Nat) ∨ w.heap.size ≤ g56 := app_wh hat61 wh hF53.size
          have hF65 := hF53.thenOwnIn f60 wh
          refine s_y (y_assign rfl) rfl rfl ?_
          refine s_nil ?_
          refine n_inb ?_
          refine n_then ?_
          refine c_region ?_
          refine s_y (y_add rfl rfl (wrI (by omega) (by omega))) rfl rfl ?_
          refine s_y (y_move rfl) rfl rfl ?_
          refine s_nil ?_
          exact fun a ha => ⟨_, by omega, i + 1, A55, g56, c57, rfl, ha.cut ⟨rfl, rfl, rfl, rfl, rfl, (iv (by omega)), trivial⟩, hF65, hw, hr25, o59, by omega, wh64⟩
        · intro h66
          replace h66 : ¬ ((↑i : Int) < (↑(textL b 1 255).1.length)) := of_decide_eq_false h66
          refine c_exit ?_
          refine x_then ?_
          obtain rfl : i = (textL b 1 255).1.length := by omega
          rw [List.take_length] at ho
          refine x_then ?_
          refine x_hit ?_
          refine n_then ?_
          refine c_seq ?_
          refine dr_begin (fun W => Row W A g o b.length 1 (b.map bv) ∧ Blk W g1 99 [.slice A b.length c, .int .i64 (↑(textL b 1 255).2.1), .nilIface] ∧ Own W A' g' (textL b 1 255).1.length c' 3 1 (((textL b 1 255).1.map gi).map jv)) 8 (by kernel_rfl) ?_
          intro w67 f68
          replace hw := hw.fr0 f68
          replace hr25 := hr25.fr0 f68
          replace ho := ho.fr0 f68
          have hF69 := hF41.then0 f68
          refine dr_y 0 rfl (fun _ => y_move rfl) rfl (by kernel_rfl) (qp_then qp_body) (fun _ => ⟨hw, hr25, ho⟩) ?_
          refine dr_y 1 rfl (fun _ => y_move rfl) rfl (by kernel_rfl) (qp_then qp_body) (fun _ => ⟨hw, hr25, ho⟩) ?_
          refine dr_y 2 rfl (fun _ => y_nilCheck rfl) rfl (by kernel_rfl) (qp_then qp_body) (fun _ => ⟨hw, hr25, ho⟩) ?_
          refine dr_y 3 rfl (fun _ => y_field rfl T.fld99_1 rfl) rfl (by kernel_rfl) (qp_then qp_body) (fun _ => ⟨hw, hr25, ho⟩) ?_
          refine dr_l 4 rfl (fun _ hS => by obtain ⟨q0, q1, q2⟩ := hS; exact y_ldB T.ty3 rfl q1 rfl) rfl (by kernel_rfl) (qp_then qp_body) ⟨hw, hr25, ho⟩ ?_
          refine dr_y 5 rfl (fun _ => y_assign rfl) rfl (by kernel_rfl) (qp_then qp_body) (fun _ => ⟨hw, hr25, ho⟩) ?_
          refine dr_y 6 rfl (fun _ => y_assign rfl) rfl (by kernel_rfl) (qp_then qp_body) (fun _ => ⟨hw, hr25, ho⟩) ?_
          refine dr_y 7 rfl (fun _ => y_assign rfl) rfl (by kernel_rfl) (qp_then qp_body) (fun _ => ⟨hw, hr25, ho⟩) ?_
          refine dr_done (by kernel_rfl) ?_
          refine n_then ?_
          refine c_ret ?_
          refine fin3 (by simp) rfl rfl rfl rfl ?_
          have hp := greet_k b hv9
          exact ⟨_, _, _, _, _, _, rfl, hF69, .inl ⟨by rw [hp]; exact hno24, rfl, by rw [hp], by rw [hp], by rw [hp]; exact ho, by rcases wh with h | h | h; exact .inl h; cases h; exact .inr h⟩⟩
    ·
      have ne70 := row_ne_new hw hg28
      have ne71 : g1 ≠ gE27 := Nat.ne_of_lt (Nat.lt_of_lt_of_le hr11.lt hg28)
      have nw72 := Nat.le_trans hF22.size hg28
      replace hw := hw.fr1 f33 ne6
      clear hr11
      have hF73 := hF22.thenNew f33 nw7
      refine s_y (y_assign rfl) rfl rfl ?_
      refine s_nil ?_
      refine n_then ?_
      refine c_seq ?_
      refine c_seq ?_
      refine c_region ?_
      refine s_y (y_move rfl) rfl rfl ?_
      refine s_y (y_nilCheck rfl) rfl rfl ?_
      refine s_y (y_field rfl T.fld99_2 rfl) rfl rfl ?_
      refine s_y (y_ldB T.ty31 rfl hr29 rfl) rfl rfl ?_
      refine s_y (y_inx Tryd.underlying31 rfl rfl) rfl rfl ?_
      refine s_nil ?_
      refine n_then ?_
      refine c_true rfl ?_
      refine c_seq ?_
      refine dr_begin (fun W => Row W A g o b.length 1 (b.map bv) ∧ Blk W g1 99 [.slice A b.length c, .int .i64 ↑at26, .iface 136 (.pointer (some ⟨gE27, 0, none⟩))]) 7 (by kernel_rfl) ?_
      intro w74 f75
      replace hfa30 := hfa30.fr0 f75
      replace hw := hw.fr0 f75
      replace hr29 := hr29.fr0 f75
      have hF76 := hF73.then0 f75
      refine dr_y 0 rfl (fun _ => y_move rfl) rfl (by kernel_rfl) (qp_then (qp_then qp_body)) (fun _ => ⟨hw, hr29⟩) ?_
      refine dr_y 1 rfl (fun _ => y_nilCheck rfl) rfl (by kernel_rfl) (qp_then (qp_then qp_body)) (fun _ => ⟨hw, hr29⟩) ?_
      refine dr_y 2 rfl (fun _ => y_field rfl T.fld99_2 rfl) rfl (by kernel_rfl) (qp_then (qp_then qp_body)) (fun _ => ⟨hw, hr29⟩) ?_
      refine dr_l 3 rfl (fun _ hS => by obtain ⟨q0, q1⟩ := hS; exact y_ldB T.ty31 rfl q1 rfl) rfl (by kernel_rfl) (qp_then (qp_then qp_body)) ⟨hw, hr29⟩ ?_
      refine dr_y 4 rfl (fun _ => y_assign rfl) rfl (by kernel_rfl) (qp_then (qp_then qp_body)) (fun _ => ⟨hw, hr29⟩) ?_
      refine dr_y 5 rfl (fun _ => y_assign rfl) rfl (by kernel_rfl) (qp_then (qp_then qp_body)) (fun _ => ⟨hw, hr29⟩) ?_
      refine dr_y 6 rfl (fun _ => y_assign rfl) rfl (by kernel_rfl) (qp_then (qp_then qp_body)) (fun _ => ⟨hw, hr29⟩) ?_
      refine dr_done (by kernel_rfl) ?_
      refine n_then ?_
      refine c_ret ?_
      refine r_then ?_
      refine fin3 (by simp) rfl rfl rfl rfl ?_
      have hp := greet_e b hv9 hfa30.ne
      exact ⟨none, 0, 0, 0, _, 0, rfl, hF76, .inr ⟨_, rfl, rfl, rfl, rfl, rfl, by omega, by rw [hp]; exact hfa30⟩⟩
  ·
    have ne77 := row_ne_new hw hg14
    have ne78 : g1 ≠ gE13 := Nat.ne_of_lt (Nat.lt_of_lt_of_le b3.lt hg14)
    have nw79 := Nat.le_trans hF8.size hg14
    replace hw := hw.fr1 f18 ne6
    clear b3
    have hF80 := hF8.thenNew f18 nw7
    refine s_nil ?_
    refine n_then ?_
    refine c_seq ?_
    refine c_region ?_
    refine s_y (y_move rfl) rfl rfl ?_
    refine s_d (d_callR T.ent75 (vs := [.pointer (some ⟨g1, 0, none⟩), .int .i64 255]) rfl (text_err g1 at12 gE13 255 A g o c b _ hb hr15) (by rintro e w' ⟨rfl, -⟩; exact ⟨_, rfl⟩)) rfl rfl ?_
    rintro v83 w81 ⟨hv84, f82⟩
    obtain rfl := ret_inj hv84
    replace hfa16 := hfa16.fr0 f82
    replace hw := hw.fr0 f82
    replace hr15 := hr15.fr0 f82
    have hF85 := hF80.then0 f82
    refine s_y (y_assign rfl) rfl rfl ?_
    refine s_nil ?_
    refine n_then ?_
    refine c_seq ?_
    refine c_seq ?_
    refine c_region ?_
    refine s_y (y_move rfl) rfl rfl ?_
    refine s_y (y_nilCheck rfl) rfl rfl ?_
    refine s_y (y_field rfl T.fld99_2 rfl) rfl rfl ?_
    refine s_y (y_ldB T.ty31 rfl hr15 rfl) rfl rfl ?_
    refine s_y (y_inx Tryd.underlying31 rfl rfl) rfl rfl ?_
    refine s_nil ?_
    refine n_then ?_
    refine c_true rfl ?_
    refine c_seq ?_
    refine dr_begin (fun W => Row W A g o b.length 1 (b.map bv) ∧ Blk W g1 99 [.slice A b.length c, .int .i64 ↑at12, .iface 136 (.pointer (some ⟨gE13, 0, none⟩))]) 7 (by kernel_rfl) ?_
    intro w86 f87
    replace hfa16 := hfa16.fr0 f87
    replace hw := hw.fr0 f87
    replace hr15 := hr15.fr0 f87
    have hF88 := hF85.then0 f87
    refine dr_y 0 rfl (fun _ => y_move rfl) rfl (by kernel_rfl) (qp_then (qp_then qp_body)) (fun _ => ⟨hw, hr15⟩) ?_
    refine dr_y 1 rfl (fun _ => y_nilCheck rfl) rfl (by kernel_rfl) (qp_then (qp_then qp_body)) (fun _ => ⟨hw, hr15⟩) ?_
    refine dr_y 2 rfl (fun _ => y_field rfl T.fld99_2 rfl) rfl (by kernel_rfl) (qp_then (qp_then qp_body)) (fun _ => ⟨hw, hr15⟩) ?_
    refine dr_l 3 rfl (fun _ hS => by obtain ⟨q0, q1⟩ := hS; exact y_ldB T.ty31 rfl q1 rfl) rfl (by kernel_rfl) (qp_then (qp_then qp_body)) ⟨hw, hr15⟩ ?_
    refine dr_y 4 rfl (fun _ => y_assign rfl) rfl (by kernel_rfl) (qp_then (qp_then qp_body)) (fun _ => ⟨hw, hr15⟩) ?_
    refine dr_y 5 rfl (fun _ => y_assign rfl) rfl (by kernel_rfl) (qp_then (qp_then qp_body)) (fun _ => ⟨hw, hr15⟩) ?_
    refine dr_y 6 rfl (fun _ => y_assign rfl) rfl (by kernel_rfl) (qp_then (qp_then qp_body)) (fun _ => ⟨hw, hr15⟩) ?_
    refine dr_done (by kernel_rfl) ?_
    refine n_then ?_
    refine c_ret ?_
    refine r_then ?_
    refine fin3 (by simp) rfl rfl rfl rfl ?_
    have hp := greet_v b hfa16.ne
    exact ⟨none, 0, 0, 0, _, 0, rfl, hF88, .inr ⟨_, rfl, rfl, rfl, rfl, rfl, by omega, by rw [hp]; exact hfa16⟩⟩

set_option maxHeartbeats 8000000 in
set_option maxRecDepth 100000 in
theorem request_ok (A : Option Addr) (g o c : Nat) (b : By) (w : World) (hb : b.length ≤ 9223372036854775807) (hc : b.length ≤ c) (hw : Row w A g o b.length 1 (b.map bv)) (hG : Gl w) :
    Calls Tryd.prog 14 #[.slice A b.length c] w fun e w' => ∃ (d' : Ds) (v : Value) (c' x : Int), e = .returned (.tuple #[.int .i64 c', .agg [.int .u8 ↑d'.h.ad.a.toNat, .int .u8 ↑d'.h.ad.b.toNat, .int .u8 ↑d'.h.ad.c.toNat, .int .u8 ↑d'.h.ad.d.toNat, .string ⟨d'.h.n.toArray⟩, .int .i64 d'.p].toArray, .int .i64 x, v]) ∧ Fr [] w w' ∧ (((reqL b).2.2.2 = .no ∧ v = .nilIface ∧ c' = ↑(reqL b).1 ∧ d' = (reqL b).2.1 ∧ x = ↑(reqL b).2.2.1) ∨ (∃ gE, v = .iface 136 (.pointer (some ⟨gE, 0, none⟩)) ∧ c' = 0 ∧ d' = Ds.zero ∧ x = 0 ∧ w.heap.size ≤ gE ∧ FaultAt w' 138 136 39 gE (reqL b).2.2.2)) := by
  have hG4 := hG.lt
  refine c_start (args := [.slice A b.length c]) Tryd.func14 rfl rfl rfl ?_
  try simp only [enum, Nat.zero_add, Nat.reduceAdd]
  have hF0 := Fr.refl [] w
  have lt_hw := hw.lt'
  refine c_seq ?_
  refine c_region ?_
  refine s_y (y_assign rfl) rfl rfl ?_
  refine s_d (d_alloc (cs := [.int .u8 0, .int .u8 0, .int .u8 0, .int .u8 0, .string ⟨[].toArray⟩, .int .i64 0]) T.zero29 rfl) rfl rfl ?_
  rintro _ w2 ⟨g1, rfl, hg5, b3, f4⟩
  have ne6 := row_ne_new hw hg5
  have nw7 := Nat.le_trans hF0.size hg5
  replace hG := hG.fr0 f4
  replace hw := hw.fr0 f4
  have hF8 := hF0.then0 f4
  refine s_y (y_assign rfl) rfl rfl ?_
  refine s_y (y_assign rfl) rfl rfl ?_
  refine s_nil ?_
  refine n_then ?_
  refine c_seq ?_
  refine c_region ?_
  refine s_y (y_move rfl) rfl rfl ?_
  refine s_y (y_build (vs := [(0, .slice A b.length c)]) rfl (by apply T.lit6)) rfl rfl ?_
  refine s_d (d_box (cs := [.slice A b.length c, .int .i64 0, .nilIface]) rfl rfl) rfl rfl ?_
  rintro _ w10 ⟨g9, rfl, hg13, b11, f12⟩
  have ne14 := row_ne_new hw hg13
  have ne15 : g1 ≠ g9 := Nat.ne_of_lt (Nat.lt_of_lt_of_le b3.lt hg13)
  have nw16 := Nat.le_trans hF8.size hg13
  replace hG := hG.fr0 f12
  replace hw := hw.fr0 f12
  replace b3 := b3.fr0 f12
  have hF17 := hF8.then0 f12
  refine s_y (y_assign rfl) rfl rfl ?_
  refine s_nil ?_
  refine n_then ?_
  refine c_seq ?_
  refine c_region ?_
  refine s_y (y_move rfl) rfl rfl ?_
  refine s_d (d_callR T.ent59 (vs := [.pointer (some ⟨g9, 0, none⟩), .int .i64 5]) rfl (version_ok g9 5 A g o c b _ hb hc ne14 b11 hw) (by rintro e w' ⟨rfl, -⟩; exact ⟨_, rfl⟩)) rfl rfl ?_
  rintro v28 w26 ⟨hv29, f27, ha30⟩
  obtain rfl := ret_inj hv29
  rcases ha30 with ⟨hv18, hlen19, hr20⟩ | ⟨at21, gE22, hg23, hr24, hfa25⟩
  ·
    replace hG := hG.fr f27 (by simp only [List.mem_cons, List.not_mem_nil, or_false, not_or]; exact hG.ne_slice b11)
    replace hw := hw.fr1 f27 ne14
    replace b3 := b3.fr1 f27 ne15
    clear b11
    have hF31 := hF17.thenNew f27 nw16
    refine s_nil ?_
    refine n_then ?_
    refine c_seq ?_
    refine c_region ?_
    refine s_y (y_move rfl) rfl rfl ?_
    refine s_d (d_callR T.ent60 (vs := [.pointer (some ⟨g9, 0, none⟩)]) rfl (one_ok g9 1 A g o c b _ (by omega) hb hc ne14 hr20 hw) (by rintro e w' ⟨_, rfl, -⟩; exact ⟨_, rfl⟩)) rfl rfl ?_
    rintro v42 w40 ⟨x39, hv43, f41, ha44⟩
    obtain rfl := ret_inj hv43
    rcases ha44 with ⟨rfl, hlt32, hr33⟩ | ⟨rfl, hge34, gE35, hg36, hr37, hfa38⟩
    ·
      replace hG := hG.fr f41 (by simp only [List.mem_cons, List.not_mem_nil, or_false, not_or]; exact hG.ne_slice hr20)
      replace hw := hw.fr1 f41 ne14
      replace b3 := b3.fr1 f41 ne15
      clear hr20
      have hF45 := hF31.thenNew f41 nw16
      refine s_y (y_assign rfl) rfl rfl ?_
      refine s_nil ?_
      refine n_then ?_
      refine c_seq ?_
      refine c_seq ?_
      refine c_region ?_
      refine s_y (y_move rfl) rfl rfl ?_
      refine s_d (d_callR T.ent60 (vs := [.pointer (some ⟨g9, 0, none⟩)]) rfl (one_ok g9 2 A g o c b _ (by omega) hb hc ne14 hr33 hw) (by rintro e w' ⟨_, rfl, -⟩; exact ⟨_, rfl⟩)) rfl rfl ?_
      rintro v56 w54 ⟨x53, hv57, f55, ha58⟩
      obtain rfl := ret_inj hv57
      rcases ha58 with ⟨rfl, hlt46, hr47⟩ | ⟨rfl, hge48, gE49, hg50, hr51, hfa52⟩
      ·
        replace hG := hG.fr f55 (by simp only [List.mem_cons, List.not_mem_nil, or_false, not_or]; exact hG.ne_slice hr33)
        replace hw := hw.fr1 f55 ne14
        replace b3 := b3.fr1 f55 ne15
        clear hr33
        have hF59 := hF45.thenNew f55 nw16
        refine s_y (y_assign rfl) rfl rfl ?_
        refine s_nil ?_
        refine n_then ?_
        refine c_seq ?_
        refine c_region ?_
        refine s_y (y_move rfl) rfl rfl ?_
        refine s_y (y_nilCheck rfl) rfl rfl ?_
        refine s_y (y_field rfl T.fld99_2 rfl) rfl rfl ?_
        refine s_y (y_ldB T.ty31 rfl hr47 rfl) rfl rfl ?_
        refine s_y (y_ii Tryd.underlying31 rfl) rfl rfl ?_
        refine s_y (y_move rfl) rfl rfl ?_
        refine s_gy (y_move rfl) ⟨_, _, _, _, rfl, rfl, rfl, rfl⟩ rfl ?_
        refine s_gy (y_neq rfl rfl rfl) ⟨_, _, _, _, rfl, rfl, rfl, rfl⟩ rfl ?_
        refine s_y (y_pick rfl rfl rfl rfl) rfl rfl ?_
        refine s_nil ?_
        refine n_then ?_
        refine c_cond rfl ?_ ?_
        · intro h60
          replace h60 : ((↑(at8 b 2)) : Int) ≠ 0 := of_decide_eq_true h60
          refine c_region ?_
          refine s_y (y_move rfl) rfl rfl ?_
          refine s_y (y_iface rfl Tryd.underlying39 rfl) rfl rfl ?_
          refine s_d (d_callR T.ent61 (vs := [.pointer (some ⟨g9, 0, none⟩), .int .i64 2, .iface 39 (.int .i64 72)]) rfl (fail_1 g9 (3 : Nat) 2 72 A b.length c _ hr47) (by rintro e w' ⟨_, rfl, -⟩; exact ⟨_, rfl⟩)) rfl rfl ?_
          rintro v67 w65 ⟨gE61, hv68, f66, hg62, hr63, hfa64⟩
          obtain rfl := ret_inj hv68
          have ne69 := row_ne_new hw hg62
          have ne70 : g1 ≠ gE61 := Nat.ne_of_lt (Nat.lt_of_lt_of_le b3.lt hg62)
          have ne71 : g9 ≠ gE61 := Nat.ne_of_lt (Nat.lt_of_lt_of_le hr47.lt hg62)
          have nw72 := Nat.le_trans hF59.size hg62
          replace hG := hG.fr f66 (by simp only [List.mem_cons, List.not_mem_nil, or_false, not_or]; exact hG.ne_slice hr47)
          replace hw := hw.fr1 f66 ne14
          replace b3 := b3.fr1 f66 ne15
          clear hr47
          have hF73 := hF59.thenNew f66 nw16
          refine s_nil ?_
          refine n_then ?_
          refine c_seq ?_
          refine c_region ?_
          refine s_y (y_move rfl) rfl rfl ?_
          refine s_d (d_callR T.ent62 (vs := [.pointer (some ⟨g9, 0, none⟩)]) rfl (host_err g9 3 gE61 A g o c b _ hb hr63) (by rintro e w' ⟨_, rfl, -⟩; exact ⟨_, rfl⟩)) rfl rfl ?_
          rintro v77 w75 ⟨hv74, hv78, f76⟩
          obtain rfl := ret_inj hv78
          replace hG := hG.fr0 f76
          replace hfa64 := hfa64.fr0 f76
          replace hw := hw.fr0 f76
          replace b3 := b3.fr0 f76
          replace hr63 := hr63.fr0 f76
          have hF79 := hF73.then0 f76
          refine s_d (d_alloc (cs := [.int .u8 0, .int .u8 0, .int .u8 0, .int .u8 0, .string ⟨[].toArray⟩]) T.zero27 rfl) rfl rfl ?_
          rintro _ w81 ⟨g80, rfl, hg84, b82, f83⟩
          have ne85 := row_ne_new hw hg84
          have ne86 : g1 ≠ g80 := Nat.ne_of_lt (Nat.lt_of_lt_of_le b3.lt hg84)
          have ne87 : g9 ≠ g80 := Nat.ne_of_lt (Nat.lt_of_lt_of_le hr63.lt hg84)
          have nw88 := Nat.le_trans hF79.size hg84
          replace hG := hG.fr0 f83
          replace hfa64 := hfa64.fr0 f83
          replace hw := hw.fr0 f83
          replace b3 := b3.fr0 f83
          replace hr63 := hr63.fr0 f83
          have hF89 := hF79.then0 f83
          refine s_d (d_store (cs := [.int .u8 ↑hv74.ad.a.toNat, .int .u8 ↑hv74.ad.b.toNat, .int .u8 ↑hv74.ad.c.toNat, .int .u8 ↑hv74.ad.d.toNat, .string ⟨hv74.n.toArray⟩]) (l' := [.int .u8 ↑hv74.ad.a.toNat, .int .u8 ↑hv74.ad.b.toNat, .int .u8 ↑hv74.ad.c.toNat, .int .u8 ↑hv74.ad.d.toNat, .string ⟨hv74.n.toArray⟩]) T.ty27 rfl rfl b82 rfl rfl (ones rfl) (Nat.le_of_ble_eq_true rfl) rfl) rfl rfl ?_
          rintro _ w90 ⟨rfl, b91, f92⟩
          replace hG := hG.fr f92 (by simp only [List.mem_cons, List.not_mem_nil, or_false, not_or]; exact by omega)
          replace hfa64 := hfa64.fr f92 (nf_cons (nf_blk b82 (by decide)) (nf_nil _ _))
          replace hw := hw.fr1 f92 ne85
          replace b3 := b3.fr1 f92 ne86
          replace hr63 := hr63.fr1 f92 ne87
          clear b82
          have hF93 := hF89.thenNew f92 nw88
          refine s_nil ?_
          refine n_then ?_
          refine c_seq ?_
          refine c_region ?_
          refine s_y (y_move rfl) rfl rfl ?_
          refine s_d (d_callR T.ent63 (vs := [.pointer (some ⟨g9, 0, none⟩), .int .i64 2]) rfl (take_err g9 3 gE61 2 A g o c b _ (by omega) hb hr63) (by rintro e w' ⟨_, rfl, -⟩; exact ⟨_, rfl⟩)) rfl rfl ?_
          rintro v99 w97 ⟨gN94, hv100, f98, hg95, hb96⟩
          obtain rfl := ret_inj hv100
          have ne101 := row_ne_new hw hg95
          have ne102 : g1 ≠ gN94 := Nat.ne_of_lt (Nat.lt_of_lt_of_le b3.lt hg95)
          have ne103 : g9 ≠ gN94 := Nat.ne_of_lt (Nat.lt_of_lt_of_le hr63.lt hg95)
          have ne104 : g80 ≠ gN94 := Nat.ne_of_lt (Nat.lt_of_lt_of_le b91.lt hg95)
          have nw105 := Nat.le_trans hF93.size hg95
          replace hG := hG.fr0 f98
          replace hfa64 := hfa64.fr0 f98
          replace hw := hw.fr0 f98
          replace b3 := b3.fr0 f98
          replace hr63 := hr63.fr0 f98
          replace b91 := b91.fr0 f98
          have hF106 := hF93.then0 f98
          refine s_y (y_assign rfl) rfl rfl ?_
          refine s_nil ?_
          refine n_then ?_
          refine c_seq ?_
          refine c_seq ?_
          refine c_region ?_
          refine s_y (y_move rfl) rfl rfl ?_
          refine s_y (y_nilCheck rfl) rfl rfl ?_
          refine s_y (y_field rfl T.fld99_2 rfl) rfl rfl ?_
          refine s_y (y_ldB T.ty31 rfl hr63 rfl) rfl rfl ?_
          refine s_y (y_inx Tryd.underlying31 rfl rfl) rfl rfl ?_
          refine s_nil ?_
          refine n_then ?_
          refine c_true rfl ?_
          refine c_seq ?_
          refine dr_begin (fun W => Row W A g o b.length 1 (b.map bv) ∧ Blk W g9 99 [.slice A b.length c, .int .i64 (↑(3 : Nat)), .iface 136 (.pointer (some ⟨gE61, 0, none⟩))] ∧ Blk W g80 27 [.int .u8 ↑hv74.ad.a.toNat, .int .u8 ↑hv74.ad.b.toNat, .int .u8 ↑hv74.ad.c.toNat, .int .u8 ↑hv74.ad.d.toNat, .string ⟨hv74.n.toArray⟩] ∧ Blk W gN94 5 (List.replicate 2 (.int .u8 0))) 9 (by kernel_rfl) ?_
          intro w107 f108
          replace hG := hG.fr0 f108
          replace hfa64 := hfa64.fr0 f108
          replace hw := hw.fr0 f108
          replace b3 := b3.fr0 f108
          replace hr63 := hr63.fr0 f108
          replace b91 := b91.fr0 f108
          replace hb96 := hb96.fr0 f108
          have hF109 := hF106.then0 f108
          refine dr_y 0 rfl (fun _ => y_build (vs := []) rfl (T.bz29 _)) rfl (by kernel_rfl) (qp_then (qp_then qp_body)) (fun _ => ⟨hw, hr63, b91, hb96⟩) ?_
          refine dr_y 1 rfl (fun _ => y_move rfl) rfl (by kernel_rfl) (qp_then (qp_then qp_body)) (fun _ => ⟨hw, hr63, b91, hb96⟩) ?_
          refine dr_y 2 rfl (fun _ => y_nilCheck rfl) rfl (by kernel_rfl) (qp_then (qp_then qp_body)) (fun _ => ⟨hw, hr63, b91, hb96⟩) ?_
          refine dr_y 3 rfl (fun _ => y_field rfl T.fld99_2 rfl) rfl (by kernel_rfl) (qp_then (qp_then qp_body)) (fun _ => ⟨hw, hr63, b91, hb96⟩) ?_
          refine dr_l 4 rfl (fun _ hS => by obtain ⟨q0, q1, q2, q3⟩ := hS; exact y_ldB T.ty31 rfl q1 rfl) rfl (by kernel_rfl) (qp_then (qp_then qp_body)) ⟨hw, hr63, b91, hb96⟩ ?_
          refine dr_y 5 rfl (fun _ => y_assign rfl) rfl (by kernel_rfl) (qp_then (qp_then qp_body)) (fun _ => ⟨hw, hr63, b91, hb96⟩) ?_
          refine dr_1 (i := 6) (by kernel_rfl) ?_
          refine rd_d rfl (d_store (cs := [.int .u8 0, .int .u8 0, .int .u8 0, .int .u8 0, .string ⟨[].toArray⟩, .int .i64 0]) (l' := [.int .u8 0, .int .u8 0, .int .u8 0, .int .u8 0, .string ⟨[].toArray⟩, .int .i64 0]) T.ty29 rfl rfl b3 rfl rfl (ones rfl) (Nat.le_of_ble_eq_true rfl) rfl) rfl rfl ?_
          rintro _ w110 ⟨rfl, b111, f112⟩
          replace hG := hG.fr f112 (by simp only [List.mem_cons, List.not_mem_nil, or_false, not_or]; exact by omega)
          replace hfa64 := hfa64.fr f112 (nf_cons (nf_blk b3 (by decide)) (nf_nil _ _))
          replace hw := hw.fr1 f112 ne6
          replace hr63 := hr63.fr1 f112 ne15.symm
          replace b91 := b91.fr1 f112 ne86.symm
          replace hb96 := hb96.fr1 f112 ne102.symm
          clear b3
          have hF113 := hF109.thenNew f112 nw7
          refine ⟨fun _ => ⟨hw, hr63, b91, hb96⟩, ?_⟩
          refine dr_y 7 rfl (fun _ => y_assign rfl) rfl (by kernel_rfl) (qp_then (qp_then qp_body)) (fun _ => ⟨hw, hr63, b91, hb96⟩) ?_
          refine dr_y 8 rfl (fun _ => y_assign rfl) rfl (by kernel_rfl) (qp_then (qp_then qp_body)) (fun _ => ⟨hw, hr63, b91, hb96⟩) ?_
          refine dr_done (by kernel_rfl) ?_
          refine n_then ?_
          refine c_ret ?_
          refine r_then ?_
          refine fin4 (by simp) rfl rfl (rv_A (xs := [.int .u8 0, .int .u8 0, .int .u8 0, .int .u8 0, .string ⟨[].toArray⟩, .int .i64 0]) T.ty29 rfl b111 rfl rfl) rfl rfl ?_
          have hp := req_w b hv18 (by omega) (by omega)
          exact ⟨Ds.zero, _, 0, 0, rfl, hF113, .inr ⟨_, rfl, rfl, rfl, rfl, by omega, by rw [hp]; exact hfa64⟩⟩
        · intro h114
          replace h114 : ((↑(at8 b 2)) : Int) = 0 := Decidable.not_not.1 (of_decide_eq_false h114)
          refine c_skip ?_
          refine n_then ?_
          refine c_seq ?_
          refine c_region ?_
          refine s_y (y_move rfl) rfl rfl ?_
          refine s_d (d_callR T.ent62 (vs := [.pointer (some ⟨g9, 0, none⟩)]) rfl (host_ok g9 3 A g o c b _ (by omega) hb hc ne14 hr47 hw hG) (by rintro e w' ⟨_, rfl, -⟩; exact ⟨_, rfl⟩)) rfl rfl ?_
          rintro v126 w124 ⟨hv115, hv127, f125, ha128⟩
          obtain rfl := ret_inj hv127
          rcases ha128 with ⟨hno116, rfl, hr117⟩ | ⟨at118, gE119, hg120, hr121, hfa122⟩
          ·
            replace hG := hG.fr f125 (by simp only [List.mem_cons, List.not_mem_nil, or_false, not_or]; exact hG.ne_slice hr47)
            replace hw := hw.fr1 f125 ne14
            replace b3 := b3.fr1 f125 ne15
            clear hr47
            have hF129 := hF59.thenNew f125 nw16
            have he123 := place_end b 3 hno116
            refine s_d (d_alloc (cs := [.int .u8 0, .int .u8 0, .int .u8 0, .int .u8 0, .string ⟨[].toArray⟩]) T.zero27 rfl) rfl rfl ?_
            rintro _ w131 ⟨g130, rfl, hg134, b132, f133⟩
            have ne135 := row_ne_new hw hg134
            have ne136 : g1 ≠ g130 := Nat.ne_of_lt (Nat.lt_of_lt_of_le b3.lt hg134)
            have ne137 : g9 ≠ g130 := Nat.ne_of_lt (Nat.lt_of_lt_of_le hr117.lt hg134)
            have nw138 := Nat.le_trans hF129.size hg134
            replace hG := hG.fr0 f133
            replace hw := hw.fr0 f133
            replace b3 := b3.fr0 f133
            replace hr117 := hr117.fr0 f133
            have hF139 := hF129.then0 f133
            refine s_d (d_store (cs := [.int .u8 (↑(placeL b 3).1.ad.a.toNat), .int .u8 (↑(placeL b 3).1.ad.b.toNat), .int .u8 (↑(placeL b 3).1.ad.c.toNat), .int .u8 (↑(placeL b 3).1.ad.d.toNat), .string ⟨(placeL b 3).1.n.toArray⟩]) (l' := [.int .u8 (↑(placeL b 3).1.ad.a.toNat), .int .u8 (↑(placeL b 3).1.ad.b.toNat), .int .u8 (↑(placeL b 3).1.ad.c.toNat), .int .u8 (↑(placeL b 3).1.ad.d.toNat), .string ⟨(placeL b 3).1.n.toArray⟩]) T.ty27 rfl rfl b132 rfl rfl (ones rfl) (Nat.le_of_ble_eq_true rfl) rfl) rfl rfl ?_
            rintro _ w140 ⟨rfl, b141, f142⟩
            replace hG := hG.fr f142 (by simp only [List.mem_cons, List.not_mem_nil, or_false, not_or]; exact by omega)
            replace hw := hw.fr1 f142 ne135
            replace b3 := b3.fr1 f142 ne136
            replace hr117 := hr117.fr1 f142 ne137
            clear b132
            have hF143 := hF139.thenNew f142 nw138
            refine s_nil ?_
            refine n_then ?_
            refine c_seq ?_
            refine c_region ?_
            refine s_y (y_move rfl) rfl rfl ?_
            refine s_d (d_callR T.ent63 (vs := [.pointer (some ⟨g9, 0, none⟩), .int .i64 2]) rfl (take_ok g9 (placeL b 3).2.1 2 A g o c b _ (by omega) (by omega) hb hc ne14 hr117 hw) (by rintro e w' ⟨_, _, rfl, -⟩; exact ⟨_, rfl⟩)) rfl rfl ?_
            rintro v159 w157 ⟨A144, c145, hv160, f158, ha161⟩
            obtain rfl := ret_inj hv160
            rcases ha161 with ⟨hlt146, rw147, hr148⟩ | ⟨hlt149, gN150, gE151, rfl, hgN152, hgE153, hbN154, hr155, hfa156⟩
            ·
              replace hG := hG.fr f158 (by simp only [List.mem_cons, List.not_mem_nil, or_false, not_or]; exact hG.ne_slice hr117)
              replace hw := hw.fr1 f158 ne14
              replace b3 := b3.fr1 f158 ne15
              clear hr117
              replace b141 := b141.fr1 f158 ne137.symm
              have hF162 := hF143.thenNew f158 nw16
              try have hgl163 : g < w.heap.size := lt_hw.resolve_left (bv_ne (by omega))
              refine s_y (y_assign rfl) rfl rfl ?_
              refine s_nil ?_
              refine n_then ?_
              refine c_seq ?_
              refine c_seq ?_
              refine c_region ?_
              refine s_y (y_move rfl) rfl rfl ?_
              refine s_y (y_nilCheck rfl) rfl rfl ?_
              refine s_y (y_field rfl T.fld99_2 rfl) rfl rfl ?_
              refine s_y (y_ldB T.ty31 rfl hr148 rfl) rfl rfl ?_
              refine s_y (y_iix Tryd.underlying31 rfl) rfl rfl ?_
              refine s_nil ?_
              refine n_then ?_
              refine c_false rfl ?_
              refine c_skip ?_
              refine n_then ?_
              refine c_seq ?_
              refine dr_begin (fun W => Row W A g o b.length 1 (b.map bv) ∧ Blk W g130 27 [.int .u8 (↑(placeL b 3).1.ad.a.toNat), .int .u8 (↑(placeL b 3).1.ad.b.toNat), .int .u8 (↑(placeL b 3).1.ad.c.toNat), .int .u8 (↑(placeL b 3).1.ad.d.toNat), .string ⟨(placeL b 3).1.n.toArray⟩] ∧ Blk W g9 99 [.slice A b.length c, .int .i64 (↑((placeL b 3).2.1 + 2)), .nilIface] ∧ Row W A144 g (o + (placeL b 3).2.1) 2 1 (((b.drop (placeL b 3).2.1).take 2).map bv)) 21 (by kernel_rfl) ?_
              intro w164 f165
              replace hG := hG.fr0 f165
              replace hw := hw.fr0 f165
              replace b3 := b3.fr0 f165
              replace b141 := b141.fr0 f165
              replace hr148 := hr148.fr0 f165
              replace rw147 := rw147.fr0 f165
              have hF166 := hF162.then0 f165
              refine dr_y 0 rfl (fun _ => y_move rfl) rfl (by kernel_rfl) (qp_then qp_body) (fun _ => ⟨hw, b141, hr148, rw147⟩) ?_
              refine dr_l 1 rfl (fun _ hS => by obtain ⟨q0, q1, q2, q3⟩ := hS; exact y_ldBA (xs := [.int .u8 (↑(placeL b 3).1.ad.a.toNat), .int .u8 (↑(placeL b 3).1.ad.b.toNat), .int .u8 (↑(placeL b 3).1.ad.c.toNat), .int .u8 (↑(placeL b 3).1.ad.d.toNat), .string ⟨(placeL b 3).1.n.toArray⟩]) T.ty27 rfl q1 rfl rfl) rfl (by kernel_rfl) (qp_then qp_body) ⟨hw, b141, hr148, rw147⟩ ?_
              refine dr_y 2 rfl (fun _ => y_move rfl) rfl (by kernel_rfl) (qp_then qp_body) (fun _ => ⟨hw, b141, hr148, rw147⟩) ?_
              refine dr_y 3 rfl (fun _ => y_index (r := (o + (placeL b 3).2.1) + 0) Tryd.underlying22 T.ty5 rfl rfl (rw147.addr (j := 0) (by simp; omega)) (by omega) (by omega) (by omega)) rfl (by kernel_rfl) (qp_then qp_body) (fun _ => ⟨hw, b141, hr148, rw147⟩) ?_
              refine dr_l 4 rfl (fun _ hS => by obtain ⟨q0, q1, q2, q3⟩ := hS; exact y_ldR (v := .int .u8 (↑(b.getD ((placeL b 3).2.1 + 0) 0).toNat)) (j := 0) T.ty5 rfl q3 (by first | rfl | omega) (sub_at b (placeL b 3).2.1 2 0 (by omega) (by omega))) rfl (by kernel_rfl) (qp_then qp_body) ⟨hw, b141, hr148, rw147⟩ ?_
              refine dr_y 5 rfl (fun _ => y_convb_i64 Tryd.underlying5 Tryd.underlying3 rfl) rfl (by kernel_rfl) (qp_then qp_body) (fun _ => ⟨hw, b141, hr148, rw147⟩) ?_
              refine dr_y 6 rfl (fun _ => y_shl (r := (↑(b.getD ((placeL b 3).2.1 + 0) 0).toNat) * 256) rfl rfl (by decide) (shlI8 _ (by omega) (by have := UInt8.toNat_lt (b.getD ((placeL b 3).2.1 + 0) 0); omega))) rfl (by kernel_rfl) (qp_then qp_body) (fun _ => ⟨hw, b141, hr148, rw147⟩) ?_
              refine dr_y 7 rfl (fun _ => y_move rfl) rfl (by kernel_rfl) (qp_then qp_body) (fun _ => ⟨hw, b141, hr148, rw147⟩) ?_
              refine dr_y 8 rfl (fun _ => y_index (r := (o + (placeL b 3).2.1) + 1) Tryd.underlying22 T.ty5 rfl rfl (rw147.addr (j := 1) (by simp; omega)) (by omega) (by omega) (by omega)) rfl (by kernel_rfl) (qp_then qp_body) (fun _ => ⟨hw, b141, hr148, rw147⟩) ?_
              refine dr_l 9 rfl (fun _ hS => by obtain ⟨q0, q1, q2, q3⟩ := hS; exact y_ldR (v := .int .u8 (↑(b.getD ((placeL b 3).2.1 + 1) 0).toNat)) (j := 1) T.ty5 rfl q3 (by first | rfl | omega) (sub_at b (placeL b 3).2.1 2 1 (by omega) (by omega))) rfl (by kernel_rfl) (qp_then qp_body) ⟨hw, b141, hr148, rw147⟩ ?_
              refine dr_y 10 rfl (fun _ => y_convb_i64 Tryd.underlying5 Tryd.underlying3 rfl) rfl (by kernel_rfl) (qp_then qp_body) (fun _ => ⟨hw, b141, hr148, rw147⟩) ?_
              refine dr_y 11 rfl (fun _ => y_or (r := (↑(b.getD ((placeL b 3).2.1 + 0) 0).toNat : Int) * 256 + ↑(b.getD ((placeL b 3).2.1 + 1) 0).toNat) rfl rfl (orI8 _ _ (UInt8.toNat_lt _) (UInt8.toNat_lt _))) rfl (by kernel_rfl) (qp_then qp_body) (fun _ => ⟨hw, b141, hr148, rw147⟩) ?_
              refine dr_y 12 rfl (fun _ => y_build (vs := [(0, .agg [.int .u8 (↑(placeL b 3).1.ad.a.toNat), .int .u8 (↑(placeL b 3).1.ad.b.toNat), .int .u8 (↑(placeL b 3).1.ad.c.toNat), .int .u8 (↑(placeL b 3).1.ad.d.toNat), .string ⟨(placeL b 3).1.n.toArray⟩].toArray), (1, .int .i64 ((↑(b.getD ((placeL b 3).2.1 + 0) 0).toNat : Int) * 256 + ↑(b.getD ((placeL b 3).2.1 + 1) 0).toNat))]) rfl (by apply T.lit7)) rfl (by kernel_rfl) (qp_then qp_body) (fun _ => ⟨hw, b141, hr148, rw147⟩) ?_
              refine dr_y 13 rfl (fun _ => y_move rfl) rfl (by kernel_rfl) (qp_then qp_body) (fun _ => ⟨hw, b141, hr148, rw147⟩) ?_
              refine dr_y 14 rfl (fun _ => y_nilCheck rfl) rfl (by kernel_rfl) (qp_then qp_body) (fun _ => ⟨hw, b141, hr148, rw147⟩) ?_
              refine dr_y 15 rfl (fun _ => y_field rfl T.fld99_1 rfl) rfl (by kernel_rfl) (qp_then qp_body) (fun _ => ⟨hw, b141, hr148, rw147⟩) ?_
              refine dr_l 16 rfl (fun _ hS => by obtain ⟨q0, q1, q2, q3⟩ := hS; exact y_ldB T.ty3 rfl q2 rfl) rfl (by kernel_rfl) (qp_then qp_body) ⟨hw, b141, hr148, rw147⟩ ?_
              refine dr_y 17 rfl (fun _ => y_assign rfl) rfl (by kernel_rfl) (qp_then qp_body) (fun _ => ⟨hw, b141, hr148, rw147⟩) ?_
              refine dr_1 (i := 18) (by kernel_rfl) ?_
              refine rd_d rfl (d_store (cs := [.int .u8 (↑(placeL b 3).1.ad.a.toNat), .int .u8 (↑(placeL b 3).1.ad.b.toNat), .int .u8 (↑(placeL b 3).1.ad.c.toNat), .int .u8 (↑(placeL b 3).1.ad.d.toNat), .string ⟨(placeL b 3).1.n.toArray⟩, .int .i64 ((↑(b.getD ((placeL b 3).2.1 + 0) 0).toNat : Int) * 256 + ↑(b.getD ((placeL b 3).2.1 + 1) 0).toNat)]) (l' := [.int .u8 (↑(placeL b 3).1.ad.a.toNat), .int .u8 (↑(placeL b 3).1.ad.b.toNat), .int .u8 (↑(placeL b 3).1.ad.c.toNat), .int .u8 (↑(placeL b 3).1.ad.d.toNat), .string ⟨(placeL b 3).1.n.toArray⟩, .int .i64 ((↑(b.getD ((placeL b 3).2.1 + 0) 0).toNat : Int) * 256 + ↑(b.getD ((placeL b 3).2.1 + 1) 0).toNat)]) T.ty29 rfl rfl b3 rfl rfl (ones rfl) (Nat.le_of_ble_eq_true rfl) rfl) rfl rfl ?_
              rintro _ w167 ⟨rfl, b168, f169⟩
              replace hG := hG.fr f169 (by simp only [List.mem_cons, List.not_mem_nil, or_false, not_or]; exact by omega)
              replace hw := hw.fr1 f169 ne6
              replace b141 := b141.fr1 f169 ne136.symm
              replace hr148 := hr148.fr1 f169 ne15.symm
              replace rw147 := rw147.fr1 f169 (.inr (by omega))
              clear b3
              have hF170 := hF166.thenNew f169 nw7
              refine ⟨fun _ => ⟨hw, b141, hr148, rw147⟩, ?_⟩
              refine dr_y 19 rfl (fun _ => y_assign rfl) rfl (by kernel_rfl) (qp_then qp_body) (fun _ => ⟨hw, b141, hr148, rw147⟩) ?_
              refine dr_y 20 rfl (fun _ => y_assign rfl) rfl (by kernel_rfl) (qp_then qp_body) (fun _ => ⟨hw, b141, hr148, rw147⟩) ?_
              refine dr_done (by kernel_rfl) ?_
              refine n_then ?_
              refine c_ret ?_
              refine fin4 (by simp) rfl rfl (rv_A (xs := [.int .u8 (↑(placeL b 3).1.ad.a.toNat), .int .u8 (↑(placeL b 3).1.ad.b.toNat), .int .u8 (↑(placeL b 3).1.ad.c.toNat), .int .u8 (↑(placeL b 3).1.ad.d.toNat), .string ⟨(placeL b 3).1.n.toArray⟩, .int .i64 ((↑(b.getD ((placeL b 3).2.1 + 0) 0).toNat : Int) * 256 + ↑(b.getD ((placeL b 3).2.1 + 1) 0).toNat)]) T.ty29 rfl b168 rfl rfl) rfl rfl ?_
              have hp := req_k b hv18 (by omega) (by omega) hno116 (by omega)
              exact ⟨(⟨(placeL b 3).1, ((↑(b.getD ((placeL b 3).2.1 + 0) 0).toNat : Int) * 256 + ↑(b.getD ((placeL b 3).2.1 + 1) 0).toNat)⟩ : Ds), _, _, _, rfl, hF170, .inl ⟨by rw [hp], rfl, by rw [hp], by rw [hp]; rfl, by rw [hp]⟩⟩
            ·
              have ne171 := row_ne_new hw hgN152
              have ne172 : g1 ≠ gN150 := Nat.ne_of_lt (Nat.lt_of_lt_of_le b3.lt hgN152)
              have ne173 : g9 ≠ gN150 := Nat.ne_of_lt (Nat.lt_of_lt_of_le hr117.lt hgN152)
              have ne174 : g130 ≠ gN150 := Nat.ne_of_lt (Nat.lt_of_lt_of_le b141.lt hgN152)
              have nw175 := Nat.le_trans hF143.size hgN152
              have ne176 := row_ne_new hw hgE153
              have ne177 : g1 ≠ gE151 := Nat.ne_of_lt (Nat.lt_of_lt_of_le b3.lt hgE153)
              have ne178 : g9 ≠ gE151 := Nat.ne_of_lt (Nat.lt_of_lt_of_le hr117.lt hgE153)
              have ne179 : g130 ≠ gE151 := Nat.ne_of_lt (Nat.lt_of_lt_of_le b141.lt hgE153)
              have nw180 := Nat.le_trans hF143.size hgE153
              replace hG := hG.fr f158 (by simp only [List.mem_cons, List.not_mem_nil, or_false, not_or]; exact hG.ne_slice hr117)
              replace hw := hw.fr1 f158 ne14
              replace b3 := b3.fr1 f158 ne15
              clear hr117
              replace b141 := b141.fr1 f158 ne137.symm
              have hF181 := hF143.thenNew f158 nw16
              have rz182 := row_z hbN154
              refine s_y (y_assign rfl) rfl rfl ?_
              refine s_nil ?_
              refine n_then ?_
              refine c_seq ?_
              refine c_seq ?_
              refine c_region ?_
              refine s_y (y_move rfl) rfl rfl ?_
              refine s_y (y_nilCheck rfl) rfl rfl ?_
              refine s_y (y_field rfl T.fld99_2 rfl) rfl rfl ?_
              refine s_y (y_ldB T.ty31 rfl hr155 rfl) rfl rfl ?_
              refine s_y (y_inx Tryd.underlying31 rfl rfl) rfl rfl ?_
              refine s_nil ?_
              refine n_then ?_
              refine c_true rfl ?_
              refine c_seq ?_
              refine dr_begin (fun W => Row W A g o b.length 1 (b.map bv) ∧ Blk W g130 27 [.int .u8 (↑(placeL b 3).1.ad.a.toNat), .int .u8 (↑(placeL b 3).1.ad.b.toNat), .int .u8 (↑(placeL b 3).1.ad.c.toNat), .int .u8 (↑(placeL b 3).1.ad.d.toNat), .string ⟨(placeL b 3).1.n.toArray⟩] ∧ Blk W g9 99 [.slice A b.length c, .int .i64 (↑(placeL b 3).2.1), .iface 136 (.pointer (some ⟨gE151, 0, none⟩))] ∧ Blk W gN150 5 (List.replicate 2 (.int .u8 0)) ∧ Row W (some ⟨gN150, 0, none⟩) gN150 0 2 1 ((List.replicate 2 (0 : UInt8)).map bv)) 9 (by kernel_rfl) ?_
              intro w183 f184
              replace hG := hG.fr0 f184
              replace hfa156 := hfa156.fr0 f184
              replace hw := hw.fr0 f184
              replace b3 := b3.fr0 f184
              replace b141 := b141.fr0 f184
              replace hr155 := hr155.fr0 f184
              replace hbN154 := hbN154.fr0 f184
              replace rz182 := rz182.fr0 f184
              have hF185 := hF181.then0 f184
              refine dr_y 0 rfl (fun _ => y_build (vs := []) rfl (T.bz29 _)) rfl (by kernel_rfl) (qp_then (qp_then qp_body)) (fun _ => ⟨hw, b141, hr155, hbN154, rz182⟩) ?_
              refine dr_y 1 rfl (fun _ => y_move rfl) rfl (by kernel_rfl) (qp_then (qp_then qp_body)) (fun _ => ⟨hw, b141, hr155, hbN154, rz182⟩) ?_
              refine dr_y 2 rfl (fun _ => y_nilCheck rfl) rfl (by kernel_rfl) (qp_then (qp_then qp_body)) (fun _ => ⟨hw, b141, hr155, hbN154, rz182⟩) ?_
              refine dr_y 3 rfl (fun _ => y_field rfl T.fld99_2 rfl) rfl (by kernel_rfl) (qp_then (qp_then qp_body)) (fun _ => ⟨hw, b141, hr155, hbN154, rz182⟩) ?_
              refine dr_l 4 rfl (fun _ hS => by obtain ⟨q0, q1, q2, q3, q4⟩ := hS; exact y_ldB T.ty31 rfl q2 rfl) rfl (by kernel_rfl) (qp_then (qp_then qp_body)) ⟨hw, b141, hr155, hbN154, rz182⟩ ?_
              refine dr_y 5 rfl (fun _ => y_assign rfl) rfl (by kernel_rfl) (qp_then (qp_then qp_body)) (fun _ => ⟨hw, b141, hr155, hbN154, rz182⟩) ?_
              refine dr_1 (i := 6) (by kernel_rfl) ?_
              refine rd_d rfl (d_store (cs := [.int .u8 0, .int .u8 0, .int .u8 0, .int .u8 0, .string ⟨[].toArray⟩, .int .i64 0]) (l' := [.int .u8 0, .int .u8 0, .int .u8 0, .int .u8 0, .string ⟨[].toArray⟩, .int .i64 0]) T.ty29 rfl rfl b3 rfl rfl (ones rfl) (Nat.le_of_ble_eq_true rfl) rfl) rfl rfl ?_
              rintro _ w186 ⟨rfl, b187, f188⟩
              replace hG := hG.fr f188 (by simp only [List.mem_cons, List.not_mem_nil, or_false, not_or]; exact by omega)
              replace hfa156 := hfa156.fr f188 (nf_cons (nf_blk b3 (by decide)) (nf_nil _ _))
              replace hw := hw.fr1 f188 ne6
              replace b141 := b141.fr1 f188 ne136.symm
              replace hr155 := hr155.fr1 f188 ne15.symm
              replace hbN154 := hbN154.fr1 f188 ne172.symm
              replace rz182 := rz182.fr1 f188 (.inr ne172.symm)
              clear b3
              have hF189 := hF185.thenNew f188 nw7
              refine ⟨fun _ => ⟨hw, b141, hr155, hbN154, rz182⟩, ?_⟩
              refine dr_y 7 rfl (fun _ => y_assign rfl) rfl (by kernel_rfl) (qp_then (qp_then qp_body)) (fun _ => ⟨hw, b141, hr155, hbN154, rz182⟩) ?_
              refine dr_y 8 rfl (fun _ => y_assign rfl) rfl (by kernel_rfl) (qp_then (qp_then qp_body)) (fun _ => ⟨hw, b141, hr155, hbN154, rz182⟩) ?_
              refine dr_done (by kernel_rfl) ?_
              refine n_then ?_
              refine c_ret ?_
              refine r_then ?_
              refine fin4 (by simp) rfl rfl (rv_A (xs := [.int .u8 0, .int .u8 0, .int .u8 0, .int .u8 0, .string ⟨[].toArray⟩, .int .i64 0]) T.ty29 rfl b187 rfl rfl) rfl rfl ?_
              have hp : reqL b = (0, Ds.zero, 0, shortE b) := by first | exact req_s b hv18 (by omega) | exact req_t b hv18 (by omega) (by omega) (by assumption) (by omega)
              exact ⟨Ds.zero, _, 0, 0, rfl, hF189, .inr ⟨_, rfl, rfl, rfl, rfl, by omega, by rw [hp]; exact hfa156⟩⟩
          ·
            have ne190 := row_ne_new hw hg120
            have ne191 : g1 ≠ gE119 := Nat.ne_of_lt (Nat.lt_of_lt_of_le b3.lt hg120)
            have ne192 : g9 ≠ gE119 := Nat.ne_of_lt (Nat.lt_of_lt_of_le hr47.lt hg120)
            have nw193 := Nat.le_trans hF59.size hg120
            replace hG := hG.fr f125 (by simp only [List.mem_cons, List.not_mem_nil, or_false, not_or]; exact hG.ne_slice hr47)
            replace hw := hw.fr1 f125 ne14
            replace b3 := b3.fr1 f125 ne15
            clear hr47
            have hF194 := hF59.thenNew f125 nw16
            refine s_d (d_alloc (cs := [.int .u8 0, .int .u8 0, .int .u8 0, .int .u8 0, .string ⟨[].toArray⟩]) T.zero27 rfl) rfl rfl ?_
            rintro _ w196 ⟨g195, rfl, hg199, b197, f198⟩
            have ne200 := row_ne_new hw hg199
            have ne201 : g1 ≠ g195 := Nat.ne_of_lt (Nat.lt_of_lt_of_le b3.lt hg199)
            have ne202 : g9 ≠ g195 := Nat.ne_of_lt (Nat.lt_of_lt_of_le hr121.lt hg199)
            have nw203 := Nat.le_trans hF194.size hg199
            replace hG := hG.fr0 f198
            replace hfa122 := hfa122.fr0 f198
            replace hw := hw.fr0 f198
            replace b3 := b3.fr0 f198
            replace hr121 := hr121.fr0 f198
            have hF204 := hF194.then0 f198
            refine s_d (d_store (cs := [.int .u8 ↑hv115.ad.a.toNat, .int .u8 ↑hv115.ad.b.toNat, .int .u8 ↑hv115.ad.c.toNat, .int .u8 ↑hv115.ad.d.toNat, .string ⟨hv115.n.toArray⟩]) (l' := [.int .u8 ↑hv115.ad.a.toNat, .int .u8 ↑hv115.ad.b.toNat, .int .u8 ↑hv115.ad.c.toNat, .int .u8 ↑hv115.ad.d.toNat, .string ⟨hv115.n.toArray⟩]) T.ty27 rfl rfl b197 rfl rfl (ones rfl) (Nat.le_of_ble_eq_true rfl) rfl) rfl rfl ?_
            rintro _ w205 ⟨rfl, b206, f207⟩
            replace hG := hG.fr f207 (by simp only [List.mem_cons, List.not_mem_nil, or_false, not_or]; exact by omega)
            replace hfa122 := hfa122.fr f207 (nf_cons (nf_blk b197 (by decide)) (nf_nil _ _))
            replace hw := hw.fr1 f207 ne200
            replace b3 := b3.fr1 f207 ne201
            replace hr121 := hr121.fr1 f207 ne202
            clear b197
            have hF208 := hF204.thenNew f207 nw203
            refine s_nil ?_
            refine n_then ?_
            refine c_seq ?_
            refine c_region ?_
            refine s_y (y_move rfl) rfl rfl ?_
            refine s_d (d_callR T.ent63 (vs := [.pointer (some ⟨g9, 0, none⟩), .int .i64 2]) rfl (take_err g9 at118 gE119 2 A g o c b _ (by omega) hb hr121) (by rintro e w' ⟨_, rfl, -⟩; exact ⟨_, rfl⟩)) rfl rfl ?_
            rintro v214 w212 ⟨gN209, hv215, f213, hg210, hb211⟩
            obtain rfl := ret_inj hv215
            have ne216 := row_ne_new hw hg210
            have ne217 : g1 ≠ gN209 := Nat.ne_of_lt (Nat.lt_of_lt_of_le b3.lt hg210)
            have ne218 : g9 ≠ gN209 := Nat.ne_of_lt (Nat.lt_of_lt_of_le hr121.lt hg210)
            have ne219 : g195 ≠ gN209 := Nat.ne_of_lt (Nat.lt_of_lt_of_le b206.lt hg210)
            have nw220 := Nat.le_trans hF208.size hg210
            replace hG := hG.fr0 f213
            replace hfa122 := hfa122.fr0 f213
            replace hw := hw.fr0 f213
            replace b3 := b3.fr0 f213
            replace hr121 := hr121.fr0 f213
            replace b206 := b206.fr0 f213
            have hF221 := hF208.then0 f213
            refine s_y (y_assign rfl) rfl rfl ?_
            refine s_nil ?_
            refine n_then ?_
            refine c_seq ?_
            refine c_seq ?_
            refine c_region ?_
            refine s_y (y_move rfl) rfl rfl ?_
            refine s_y (y_nilCheck rfl) rfl rfl ?_
            refine s_y (y_field rfl T.fld99_2 rfl) rfl rfl ?_
            refine s_y (y_ldB T.ty31 rfl hr121 rfl) rfl rfl ?_
            refine s_y (y_inx Tryd.underlying31 rfl rfl) rfl rfl ?_
            refine s_nil ?_
            refine n_then ?_
            refine c_true rfl ?_
            refine c_seq ?_
            refine dr_begin (fun W => Row W A g o b.length 1 (b.map bv) ∧ Blk W g9 99 [.slice A b.length c, .int .i64 ↑at118, .iface 136 (.pointer (some ⟨gE119, 0, none⟩))] ∧ Blk W g195 27 [.int .u8 ↑hv115.ad.a.toNat, .int .u8 ↑hv115.ad.b.toNat, .int .u8 ↑hv115.ad.c.toNat, .int .u8 ↑hv115.ad.d.toNat, .string ⟨hv115.n.toArray⟩] ∧ Blk W gN209 5 (List.replicate 2 (.int .u8 0))) 9 (by kernel_rfl) ?_
            intro w222 f223
            replace hG := hG.fr0 f223
            replace hfa122 := hfa122.fr0 f223
            replace hw := hw.fr0 f223
            replace b3 := b3.fr0 f223
            replace hr121 := hr121.fr0 f223
            replace b206 := b206.fr0 f223
            replace hb211 := hb211.fr0 f223
            have hF224 := hF221.then0 f223
            refine dr_y 0 rfl (fun _ => y_build (vs := []) rfl (T.bz29 _)) rfl (by kernel_rfl) (qp_then (qp_then qp_body)) (fun _ => ⟨hw, hr121, b206, hb211⟩) ?_
            refine dr_y 1 rfl (fun _ => y_move rfl) rfl (by kernel_rfl) (qp_then (qp_then qp_body)) (fun _ => ⟨hw, hr121, b206, hb211⟩) ?_
            refine dr_y 2 rfl (fun _ => y_nilCheck rfl) rfl (by kernel_rfl) (qp_then (qp_then qp_body)) (fun _ => ⟨hw, hr121, b206, hb211⟩) ?_
            refine dr_y 3 rfl (fun _ => y_field rfl T.fld99_2 rfl) rfl (by kernel_rfl) (qp_then (qp_then qp_body)) (fun _ => ⟨hw, hr121, b206, hb211⟩) ?_
            refine dr_l 4 rfl (fun _ hS => by obtain ⟨q0, q1, q2, q3⟩ := hS; exact y_ldB T.ty31 rfl q1 rfl) rfl (by kernel_rfl) (qp_then (qp_then qp_body)) ⟨hw, hr121, b206, hb211⟩ ?_
            refine dr_y 5 rfl (fun _ => y_assign rfl) rfl (by kernel_rfl) (qp_then (qp_then qp_body)) (fun _ => ⟨hw, hr121, b206, hb211⟩) ?_
            refine dr_1 (i := 6) (by kernel_rfl) ?_
            refine rd_d rfl (d_store (cs := [.int .u8 0, .int .u8 0, .int .u8 0, .int .u8 0, .string ⟨[].toArray⟩, .int .i64 0]) (l' := [.int .u8 0, .int .u8 0, .int .u8 0, .int .u8 0, .string ⟨[].toArray⟩, .int .i64 0]) T.ty29 rfl rfl b3 rfl rfl (ones rfl) (Nat.le_of_ble_eq_true rfl) rfl) rfl rfl ?_
            rintro _ w225 ⟨rfl, b226, f227⟩
            replace hG := hG.fr f227 (by simp only [List.mem_cons, List.not_mem_nil, or_false, not_or]; exact by omega)
            replace hfa122 := hfa122.fr f227 (nf_cons (nf_blk b3 (by decide)) (nf_nil _ _))
            replace hw := hw.fr1 f227 ne6
            replace hr121 := hr121.fr1 f227 ne15.symm
            replace b206 := b206.fr1 f227 ne201.symm
            replace hb211 := hb211.fr1 f227 ne217.symm
            clear b3
            have hF228 := hF224.thenNew f227 nw7
            refine ⟨fun _ => ⟨hw, hr121, b206, hb211⟩, ?_⟩
            refine dr_y 7 rfl (fun _ => y_assign rfl) rfl (by kernel_rfl) (qp_then (qp_then qp_body)) (fun _ => ⟨hw, hr121, b206, hb211⟩) ?_
            refine dr_y 8 rfl (fun _ => y_assign rfl) rfl (by kernel_rfl) (qp_then (qp_then qp_body)) (fun _ => ⟨hw, hr121, b206, hb211⟩) ?_
            refine dr_done (by kernel_rfl) ?_
            refine n_then ?_
            refine c_ret ?_
            refine r_then ?_
            refine fin4 (by simp) rfl rfl (rv_A (xs := [.int .u8 0, .int .u8 0, .int .u8 0, .int .u8 0, .string ⟨[].toArray⟩, .int .i64 0]) T.ty29 rfl b226 rfl rfl) rfl rfl ?_
            have hp := req_p b hv18 (by omega) (by omega) hfa122.ne
            exact ⟨Ds.zero, _, 0, 0, rfl, hF228, .inr ⟨_, rfl, rfl, rfl, rfl, by omega, by rw [hp]; exact hfa122⟩⟩
      ·
        have ne229 := row_ne_new hw hg50
        have ne230 : g1 ≠ gE49 := Nat.ne_of_lt (Nat.lt_of_lt_of_le b3.lt hg50)
        have ne231 : g9 ≠ gE49 := Nat.ne_of_lt (Nat.lt_of_lt_of_le hr33.lt hg50)
        have nw232 := Nat.le_trans hF45.size hg50
        replace hG := hG.fr f55 (by simp only [List.mem_cons, List.not_mem_nil, or_false, not_or]; exact hG.ne_slice hr33)
        replace hw := hw.fr1 f55 ne14
        replace b3 := b3.fr1 f55 ne15
        clear hr33
        have hF233 := hF45.thenNew f55 nw16
        refine s_y (y_assign rfl) rfl rfl ?_
        refine s_nil ?_
        refine n_then ?_
        refine c_seq ?_
        refine c_region ?_
        refine s_y (y_move rfl) rfl rfl ?_
        refine s_y (y_nilCheck rfl) rfl rfl ?_
        refine s_y (y_field rfl T.fld99_2 rfl) rfl rfl ?_
        refine s_y (y_ldB T.ty31 rfl hr51 rfl) rfl rfl ?_
        refine s_y (y_in Tryd.underlying31 rfl rfl) rfl rfl ?_
        refine s_y (y_move rfl) rfl rfl ?_
        refine s_skip ⟨_, _, _, _, rfl, rfl, rfl, rfl⟩ rfl ?_
        refine s_skip ⟨_, _, _, _, rfl, rfl, rfl, rfl⟩ rfl ?_
        refine s_y (y_pick rfl rfl rfl rfl) rfl rfl ?_
        refine s_nil ?_
        refine n_then ?_
        refine c_false rfl ?_
        refine c_skip ?_
        refine n_then ?_
        refine c_seq ?_
        refine c_region ?_
        refine s_y (y_move rfl) rfl rfl ?_
        refine s_d (d_callR T.ent62 (vs := [.pointer (some ⟨g9, 0, none⟩)]) rfl (host_err g9 2 gE49 A g o c b _ hb hr51) (by rintro e w' ⟨_, rfl, -⟩; exact ⟨_, rfl⟩)) rfl rfl ?_
        rintro v237 w235 ⟨hv234, hv238, f236⟩
        obtain rfl := ret_inj hv238
        replace hG := hG.fr0 f236
        replace hfa52 := hfa52.fr0 f236
        replace hw := hw.fr0 f236
        replace b3 := b3.fr0 f236
        replace hr51 := hr51.fr0 f236
        have hF239 := hF233.then0 f236
        refine s_d (d_alloc (cs := [.int .u8 0, .int .u8 0, .int .u8 0, .int .u8 0, .string ⟨[].toArray⟩]) T.zero27 rfl) rfl rfl ?_
        rintro _ w241 ⟨g240, rfl, hg244, b242, f243⟩
        have ne245 := row_ne_new hw hg244
        have ne246 : g1 ≠ g240 := Nat.ne_of_lt (Nat.lt_of_lt_of_le b3.lt hg244)
        have ne247 : g9 ≠ g240 := Nat.ne_of_lt (Nat.lt_of_lt_of_le hr51.lt hg244)
        have nw248 := Nat.le_trans hF239.size hg244
        replace hG := hG.fr0 f243
        replace hfa52 := hfa52.fr0 f243
        replace hw := hw.fr0 f243
        replace b3 := b3.fr0 f243
        replace hr51 := hr51.fr0 f243
        have hF249 := hF239.then0 f243
        refine s_d (d_store (cs := [.int .u8 ↑hv234.ad.a.toNat, .int .u8 ↑hv234.ad.b.toNat, .int .u8 ↑hv234.ad.c.toNat, .int .u8 ↑hv234.ad.d.toNat, .string ⟨hv234.n.toArray⟩]) (l' := [.int .u8 ↑hv234.ad.a.toNat, .int .u8 ↑hv234.ad.b.toNat, .int .u8 ↑hv234.ad.c.toNat, .int .u8 ↑hv234.ad.d.toNat, .string ⟨hv234.n.toArray⟩]) T.ty27 rfl rfl b242 rfl rfl (ones rfl) (Nat.le_of_ble_eq_true rfl) rfl) rfl rfl ?_
        rintro _ w250 ⟨rfl, b251, f252⟩
        replace hG := hG.fr f252 (by simp only [List.mem_cons, List.not_mem_nil, or_false, not_or]; exact by omega)
        replace hfa52 := hfa52.fr f252 (nf_cons (nf_blk b242 (by decide)) (nf_nil _ _))
        replace hw := hw.fr1 f252 ne245
        replace b3 := b3.fr1 f252 ne246
        replace hr51 := hr51.fr1 f252 ne247
        clear b242
        have hF253 := hF249.thenNew f252 nw248
        refine s_nil ?_
        refine n_then ?_
        refine c_seq ?_
        refine c_region ?_
        refine s_y (y_move rfl) rfl rfl ?_
        refine s_d (d_callR T.ent63 (vs := [.pointer (some ⟨g9, 0, none⟩), .int .i64 2]) rfl (take_err g9 2 gE49 2 A g o c b _ (by omega) hb hr51) (by rintro e w' ⟨_, rfl, -⟩; exact ⟨_, rfl⟩)) rfl rfl ?_
        rintro v259 w257 ⟨gN254, hv260, f258, hg255, hb256⟩
        obtain rfl := ret_inj hv260
        have ne261 := row_ne_new hw hg255
        have ne262 : g1 ≠ gN254 := Nat.ne_of_lt (Nat.lt_of_lt_of_le b3.lt hg255)
        have ne263 : g9 ≠ gN254 := Nat.ne_of_lt (Nat.lt_of_lt_of_le hr51.lt hg255)
        have ne264 : g240 ≠ gN254 := Nat.ne_of_lt (Nat.lt_of_lt_of_le b251.lt hg255)
        have nw265 := Nat.le_trans hF253.size hg255
        replace hG := hG.fr0 f258
        replace hfa52 := hfa52.fr0 f258
        replace hw := hw.fr0 f258
        replace b3 := b3.fr0 f258
        replace hr51 := hr51.fr0 f258
        replace b251 := b251.fr0 f258
        have hF266 := hF253.then0 f258
        refine s_y (y_assign rfl) rfl rfl ?_
        refine s_nil ?_
        refine n_then ?_
        refine c_seq ?_
        refine c_seq ?_
        refine c_region ?_
        refine s_y (y_move rfl) rfl rfl ?_
        refine s_y (y_nilCheck rfl) rfl rfl ?_
        refine s_y (y_field rfl T.fld99_2 rfl) rfl rfl ?_
        refine s_y (y_ldB T.ty31 rfl hr51 rfl) rfl rfl ?_
        refine s_y (y_inx Tryd.underlying31 rfl rfl) rfl rfl ?_
        refine s_nil ?_
        refine n_then ?_
        refine c_true rfl ?_
        refine c_seq ?_
        refine dr_begin (fun W => Row W A g o b.length 1 (b.map bv) ∧ Blk W g9 99 [.slice A b.length c, .int .i64 (↑(2 : Nat)), .iface 136 (.pointer (some ⟨gE49, 0, none⟩))] ∧ Blk W g240 27 [.int .u8 ↑hv234.ad.a.toNat, .int .u8 ↑hv234.ad.b.toNat, .int .u8 ↑hv234.ad.c.toNat, .int .u8 ↑hv234.ad.d.toNat, .string ⟨hv234.n.toArray⟩] ∧ Blk W gN254 5 (List.replicate 2 (.int .u8 0))) 9 (by kernel_rfl) ?_
        intro w267 f268
        replace hG := hG.fr0 f268
        replace hfa52 := hfa52.fr0 f268
        replace hw := hw.fr0 f268
        replace b3 := b3.fr0 f268
        replace hr51 := hr51.fr0 f268
        replace b251 := b251.fr0 f268
        replace hb256 := hb256.fr0 f268
        have hF269 := hF266.then0 f268
        refine dr_y 0 rfl (fun _ => y_build (vs := []) rfl (T.bz29 _)) rfl (by kernel_rfl) (qp_then (qp_then qp_body)) (fun _ => ⟨hw, hr51, b251, hb256⟩) ?_
        refine dr_y 1 rfl (fun _ => y_move rfl) rfl (by kernel_rfl) (qp_then (qp_then qp_body)) (fun _ => ⟨hw, hr51, b251, hb256⟩) ?_
        refine dr_y 2 rfl (fun _ => y_nilCheck rfl) rfl (by kernel_rfl) (qp_then (qp_then qp_body)) (fun _ => ⟨hw, hr51, b251, hb256⟩) ?_
        refine dr_y 3 rfl (fun _ => y_field rfl T.fld99_2 rfl) rfl (by kernel_rfl) (qp_then (qp_then qp_body)) (fun _ => ⟨hw, hr51, b251, hb256⟩) ?_
        refine dr_l 4 rfl (fun _ hS => by obtain ⟨q0, q1, q2, q3⟩ := hS; exact y_ldB T.ty31 rfl q1 rfl) rfl (by kernel_rfl) (qp_then (qp_then qp_body)) ⟨hw, hr51, b251, hb256⟩ ?_
        refine dr_y 5 rfl (fun _ => y_assign rfl) rfl (by kernel_rfl) (qp_then (qp_then qp_body)) (fun _ => ⟨hw, hr51, b251, hb256⟩) ?_
        refine dr_1 (i := 6) (by kernel_rfl) ?_
        refine rd_d rfl (d_store (cs := [.int .u8 0, .int .u8 0, .int .u8 0, .int .u8 0, .string ⟨[].toArray⟩, .int .i64 0]) (l' := [.int .u8 0, .int .u8 0, .int .u8 0, .int .u8 0, .string ⟨[].toArray⟩, .int .i64 0]) T.ty29 rfl rfl b3 rfl rfl (ones rfl) (Nat.le_of_ble_eq_true rfl) rfl) rfl rfl ?_
        rintro _ w270 ⟨rfl, b271, f272⟩
        replace hG := hG.fr f272 (by simp only [List.mem_cons, List.not_mem_nil, or_false, not_or]; exact by omega)
        replace hfa52 := hfa52.fr f272 (nf_cons (nf_blk b3 (by decide)) (nf_nil _ _))
        replace hw := hw.fr1 f272 ne6
        replace hr51 := hr51.fr1 f272 ne15.symm
        replace b251 := b251.fr1 f272 ne246.symm
        replace hb256 := hb256.fr1 f272 ne262.symm
        clear b3
        have hF273 := hF269.thenNew f272 nw7
        refine ⟨fun _ => ⟨hw, hr51, b251, hb256⟩, ?_⟩
        refine dr_y 7 rfl (fun _ => y_assign rfl) rfl (by kernel_rfl) (qp_then (qp_then qp_body)) (fun _ => ⟨hw, hr51, b251, hb256⟩) ?_
        refine dr_y 8 rfl (fun _ => y_assign rfl) rfl (by kernel_rfl) (qp_then (qp_then qp_body)) (fun _ => ⟨hw, hr51, b251, hb256⟩) ?_
        refine dr_done (by kernel_rfl) ?_
        refine n_then ?_
        refine c_ret ?_
        refine r_then ?_
        refine fin4 (by simp) rfl rfl (rv_A (xs := [.int .u8 0, .int .u8 0, .int .u8 0, .int .u8 0, .string ⟨[].toArray⟩, .int .i64 0]) T.ty29 rfl b271 rfl rfl) rfl rfl ?_
        have hp : reqL b = (0, Ds.zero, 0, shortE b) := by first | exact req_s b hv18 (by omega) | exact req_t b hv18 (by omega) (by omega) (by assumption) (by omega)
        exact ⟨Ds.zero, _, 0, 0, rfl, hF273, .inr ⟨_, rfl, rfl, rfl, rfl, by omega, by rw [hp]; exact hfa52⟩⟩
    ·
      have ne274 := row_ne_new hw hg36
      have ne275 : g1 ≠ gE35 := Nat.ne_of_lt (Nat.lt_of_lt_of_le b3.lt hg36)
      have ne276 : g9 ≠ gE35 := Nat.ne_of_lt (Nat.lt_of_lt_of_le hr20.lt hg36)
      have nw277 := Nat.le_trans hF31.size hg36
      replace hG := hG.fr f41 (by simp only [List.mem_cons, List.not_mem_nil, or_false, not_or]; exact hG.ne_slice hr20)
      replace hw := hw.fr1 f41 ne14
      replace b3 := b3.fr1 f41 ne15
      clear hr20
      have hF278 := hF31.thenNew f41 nw16
      refine s_y (y_assign rfl) rfl rfl ?_
      refine s_nil ?_
      refine n_then ?_
      refine c_seq ?_
      refine c_seq ?_
      refine c_region ?_
      refine s_y (y_move rfl) rfl rfl ?_
      refine s_d (d_callR T.ent60 (vs := [.pointer (some ⟨g9, 0, none⟩)]) rfl (one_err g9 1 gE35 A g o c b _ hb hr37) (by rintro e w' ⟨rfl, -⟩; exact ⟨_, rfl⟩)) rfl rfl ?_
      rintro v281 w279 ⟨hv282, f280⟩
      obtain rfl := ret_inj hv282
      replace hG := hG.fr0 f280
      replace hfa38 := hfa38.fr0 f280
      replace hw := hw.fr0 f280
      replace b3 := b3.fr0 f280
      replace hr37 := hr37.fr0 f280
      have hF283 := hF278.then0 f280
      refine s_y (y_assign rfl) rfl rfl ?_
      refine s_nil ?_
      refine n_then ?_
      refine c_seq ?_
      refine c_region ?_
      refine s_y (y_move rfl) rfl rfl ?_
      refine s_y (y_nilCheck rfl) rfl rfl ?_
      refine s_y (y_field rfl T.fld99_2 rfl) rfl rfl ?_
      refine s_y (y_ldB T.ty31 rfl hr37 rfl) rfl rfl ?_
      refine s_y (y_in Tryd.underlying31 rfl rfl) rfl rfl ?_
      refine s_y (y_move rfl) rfl rfl ?_
      refine s_skip ⟨_, _, _, _, rfl, rfl, rfl, rfl⟩ rfl ?_
      refine s_skip ⟨_, _, _, _, rfl, rfl, rfl, rfl⟩ rfl ?_
      refine s_y (y_pick rfl rfl rfl rfl) rfl rfl ?_
      refine s_nil ?_
      refine n_then ?_
      refine c_false rfl ?_
      refine c_skip ?_
      refine n_then ?_
      refine c_seq ?_
      refine c_region ?_
      refine s_y (y_move rfl) rfl rfl ?_
      refine s_d (d_callR T.ent62 (vs := [.pointer (some ⟨g9, 0, none⟩)]) rfl (host_err g9 1 gE35 A g o c b _ hb hr37) (by rintro e w' ⟨_, rfl, -⟩; exact ⟨_, rfl⟩)) rfl rfl ?_
      rintro v287 w285 ⟨hv284, hv288, f286⟩
      obtain rfl := ret_inj hv288
      replace hG := hG.fr0 f286
      replace hfa38 := hfa38.fr0 f286
      replace hw := hw.fr0 f286
      replace b3 := b3.fr0 f286
      replace hr37 := hr37.fr0 f286
      have hF289 := hF283.then0 f286
      refine s_d (d_alloc (cs := [.int .u8 0, .int .u8 0, .int .u8 0, .int .u8 0, .string ⟨[].toArray⟩]) T.zero27 rfl) rfl rfl ?_
      rintro _ w291 ⟨g290, rfl, hg294, b292, f293⟩
      have ne295 := row_ne_new hw hg294
      have ne296 : g1 ≠ g290 := Nat.ne_of_lt (Nat.lt_of_lt_of_le b3.lt hg294)
      have ne297 : g9 ≠ g290 := Nat.ne_of_lt (Nat.lt_of_lt_of_le hr37.lt hg294)
      have nw298 := Nat.le_trans hF289.size hg294
      replace hG := hG.fr0 f293
      replace hfa38 := hfa38.fr0 f293
      replace hw := hw.fr0 f293
      replace b3 := b3.fr0 f293
      replace hr37 := hr37.fr0 f293
      have hF299 := hF289.then0 f293
      refine s_d (d_store (cs := [.int .u8 ↑hv284.ad.a.toNat, .int .u8 ↑hv284.ad.b.toNat, .int .u8 ↑hv284.ad.c.toNat, .int .u8 ↑hv284.ad.d.toNat, .string ⟨hv284.n.toArray⟩]) (l' := [.int .u8 ↑hv284.ad.a.toNat, .int .u8 ↑hv284.ad.b.toNat, .int .u8 ↑hv284.ad.c.toNat, .int .u8 ↑hv284.ad.d.toNat, .string ⟨hv284.n.toArray⟩]) T.ty27 rfl rfl b292 rfl rfl (ones rfl) (Nat.le_of_ble_eq_true rfl) rfl) rfl rfl ?_
      rintro _ w300 ⟨rfl, b301, f302⟩
      replace hG := hG.fr f302 (by simp only [List.mem_cons, List.not_mem_nil, or_false, not_or]; exact by omega)
      replace hfa38 := hfa38.fr f302 (nf_cons (nf_blk b292 (by decide)) (nf_nil _ _))
      replace hw := hw.fr1 f302 ne295
      replace b3 := b3.fr1 f302 ne296
      replace hr37 := hr37.fr1 f302 ne297
      clear b292
      have hF303 := hF299.thenNew f302 nw298
      refine s_nil ?_
      refine n_then ?_
      refine c_seq ?_
      refine c_region ?_
      refine s_y (y_move rfl) rfl rfl ?_
      refine s_d (d_callR T.ent63 (vs := [.pointer (some ⟨g9, 0, none⟩), .int .i64 2]) rfl (take_err g9 1 gE35 2 A g o c b _ (by omega) hb hr37) (by rintro e w' ⟨_, rfl, -⟩; exact ⟨_, rfl⟩)) rfl rfl ?_
      rintro v309 w307 ⟨gN304, hv310, f308, hg305, hb306⟩
      obtain rfl := ret_inj hv310
      have ne311 := row_ne_new hw hg305
      have ne312 : g1 ≠ gN304 := Nat.ne_of_lt (Nat.lt_of_lt_of_le b3.lt hg305)
      have ne313 : g9 ≠ gN304 := Nat.ne_of_lt (Nat.lt_of_lt_of_le hr37.lt hg305)
      have ne314 : g290 ≠ gN304 := Nat.ne_of_lt (Nat.lt_of_lt_of_le b301.lt hg305)
      have nw315 := Nat.le_trans hF303.size hg305
      replace hG := hG.fr0 f308
      replace hfa38 := hfa38.fr0 f308
      replace hw := hw.fr0 f308
      replace b3 := b3.fr0 f308
      replace hr37 := hr37.fr0 f308
      replace b301 := b301.fr0 f308
      have hF316 := hF303.then0 f308
      refine s_y (y_assign rfl) rfl rfl ?_
      refine s_nil ?_
      refine n_then ?_
      refine c_seq ?_
      refine c_seq ?_
      refine c_region ?_
      refine s_y (y_move rfl) rfl rfl ?_
      refine s_y (y_nilCheck rfl) rfl rfl ?_
      refine s_y (y_field rfl T.fld99_2 rfl) rfl rfl ?_
      refine s_y (y_ldB T.ty31 rfl hr37 rfl) rfl rfl ?_
      refine s_y (y_inx Tryd.underlying31 rfl rfl) rfl rfl ?_
      refine s_nil ?_
      refine n_then ?_
      refine c_true rfl ?_
      refine c_seq ?_
      refine dr_begin (fun W => Row W A g o b.length 1 (b.map bv) ∧ Blk W g9 99 [.slice A b.length c, .int .i64 (↑(1 : Nat)), .iface 136 (.pointer (some ⟨gE35, 0, none⟩))] ∧ Blk W g290 27 [.int .u8 ↑hv284.ad.a.toNat, .int .u8 ↑hv284.ad.b.toNat, .int .u8 ↑hv284.ad.c.toNat, .int .u8 ↑hv284.ad.d.toNat, .string ⟨hv284.n.toArray⟩] ∧ Blk W gN304 5 (List.replicate 2 (.int .u8 0))) 9 (by kernel_rfl) ?_
      intro w317 f318
      replace hG := hG.fr0 f318
      replace hfa38 := hfa38.fr0 f318
      replace hw := hw.fr0 f318
      replace b3 := b3.fr0 f318
      replace hr37 := hr37.fr0 f318
      replace b301 := b301.fr0 f318
      replace hb306 := hb306.fr0 f318
      have hF319 := hF316.then0 f318
      refine dr_y 0 rfl (fun _ => y_build (vs := []) rfl (T.bz29 _)) rfl (by kernel_rfl) (qp_then (qp_then qp_body)) (fun _ => ⟨hw, hr37, b301, hb306⟩) ?_
      refine dr_y 1 rfl (fun _ => y_move rfl) rfl (by kernel_rfl) (qp_then (qp_then qp_body)) (fun _ => ⟨hw, hr37, b301, hb306⟩) ?_
      refine dr_y 2 rfl (fun _ => y_nilCheck rfl) rfl (by kernel_rfl) (qp_then (qp_then qp_body)) (fun _ => ⟨hw, hr37, b301, hb306⟩) ?_
      refine dr_y 3 rfl (fun _ => y_field rfl T.fld99_2 rfl) rfl (by kernel_rfl) (qp_then (qp_then qp_body)) (fun _ => ⟨hw, hr37, b301, hb306⟩) ?_
      refine dr_l 4 rfl (fun _ hS => by obtain ⟨q0, q1, q2, q3⟩ := hS; exact y_ldB T.ty31 rfl q1 rfl) rfl (by kernel_rfl) (qp_then (qp_then qp_body)) ⟨hw, hr37, b301, hb306⟩ ?_
      refine dr_y 5 rfl (fun _ => y_assign rfl) rfl (by kernel_rfl) (qp_then (qp_then qp_body)) (fun _ => ⟨hw, hr37, b301, hb306⟩) ?_
      refine dr_1 (i := 6) (by kernel_rfl) ?_
      refine rd_d rfl (d_store (cs := [.int .u8 0, .int .u8 0, .int .u8 0, .int .u8 0, .string ⟨[].toArray⟩, .int .i64 0]) (l' := [.int .u8 0, .int .u8 0, .int .u8 0, .int .u8 0, .string ⟨[].toArray⟩, .int .i64 0]) T.ty29 rfl rfl b3 rfl rfl (ones rfl) (Nat.le_of_ble_eq_true rfl) rfl) rfl rfl ?_
      rintro _ w320 ⟨rfl, b321, f322⟩
      replace hG := hG.fr f322 (by simp only [List.mem_cons, List.not_mem_nil, or_false, not_or]; exact by omega)
      replace hfa38 := hfa38.fr f322 (nf_cons (nf_blk b3 (by decide)) (nf_nil _ _))
      replace hw := hw.fr1 f322 ne6
      replace hr37 := hr37.fr1 f322 ne15.symm
      replace b301 := b301.fr1 f322 ne296.symm
      replace hb306 := hb306.fr1 f322 ne312.symm
      clear b3
      have hF323 := hF319.thenNew f322 nw7
      refine ⟨fun _ => ⟨hw, hr37, b301, hb306⟩, ?_⟩
      refine dr_y 7 rfl (fun _ => y_assign rfl) rfl (by kernel_rfl) (qp_then (qp_then qp_body)) (fun _ => ⟨hw, hr37, b301, hb306⟩) ?_
      refine dr_y 8 rfl (fun _ => y_assign rfl) rfl (by kernel_rfl) (qp_then (qp_then qp_body)) (fun _ => ⟨hw, hr37, b301, hb306⟩) ?_
      refine dr_done (by kernel_rfl) ?_
      refine n_then ?_
      refine c_ret ?_
      refine r_then ?_
      refine fin4 (by simp) rfl rfl (rv_A (xs := [.int .u8 0, .int .u8 0, .int .u8 0, .int .u8 0, .string ⟨[].toArray⟩, .int .i64 0]) T.ty29 rfl b321 rfl rfl) rfl rfl ?_
      have hp : reqL b = (0, Ds.zero, 0, shortE b) := by first | exact req_s b hv18 (by omega) | exact req_t b hv18 (by omega) (by omega) (by assumption) (by omega)
      exact ⟨Ds.zero, _, 0, 0, rfl, hF323, .inr ⟨_, rfl, rfl, rfl, rfl, by omega, by rw [hp]; exact hfa38⟩⟩
  ·
    have ne324 := row_ne_new hw hg23
    have ne325 : g1 ≠ gE22 := Nat.ne_of_lt (Nat.lt_of_lt_of_le b3.lt hg23)
    have ne326 : g9 ≠ gE22 := Nat.ne_of_lt (Nat.lt_of_lt_of_le b11.lt hg23)
    have nw327 := Nat.le_trans hF17.size hg23
    replace hG := hG.fr f27 (by simp only [List.mem_cons, List.not_mem_nil, or_false, not_or]; exact hG.ne_slice b11)
    replace hw := hw.fr1 f27 ne14
    replace b3 := b3.fr1 f27 ne15
    clear b11
    have hF328 := hF17.thenNew f27 nw16
    refine s_nil ?_
    refine n_then ?_
    refine c_seq ?_
    refine c_region ?_
    refine s_y (y_move rfl) rfl rfl ?_
    refine s_d (d_callR T.ent60 (vs := [.pointer (some ⟨g9, 0, none⟩)]) rfl (one_err g9 at21 gE22 A g o c b _ hb hr24) (by rintro e w' ⟨rfl, -⟩; exact ⟨_, rfl⟩)) rfl rfl ?_
    rintro v331 w329 ⟨hv332, f330⟩
    obtain rfl := ret_inj hv332
    replace hG := hG.fr0 f330
    replace hfa25 := hfa25.fr0 f330
    replace hw := hw.fr0 f330
    replace b3 := b3.fr0 f330
    replace hr24 := hr24.fr0 f330
    have hF333 := hF328.then0 f330
    refine s_y (y_assign rfl) rfl rfl ?_
    refine s_nil ?_
    refine n_then ?_
    refine c_seq ?_
    refine c_seq ?_
    refine c_region ?_
    refine s_y (y_move rfl) rfl rfl ?_
    refine s_d (d_callR T.ent60 (vs := [.pointer (some ⟨g9, 0, none⟩)]) rfl (one_err g9 at21 gE22 A g o c b _ hb hr24) (by rintro e w' ⟨rfl, -⟩; exact ⟨_, rfl⟩)) rfl rfl ?_
    rintro v336 w334 ⟨hv337, f335⟩
    obtain rfl := ret_inj hv337
    replace hG := hG.fr0 f335
    replace hfa25 := hfa25.fr0 f335
    replace hw := hw.fr0 f335
    replace b3 := b3.fr0 f335
    replace hr24 := hr24.fr0 f335
    have hF338 := hF333.then0 f335
    refine s_y (y_assign rfl) rfl rfl ?_
    refine s_nil ?_
    refine n_then ?_
    refine c_seq ?_
    refine c_region ?_
    refine s_y (y_move rfl) rfl rfl ?_
    refine s_y (y_nilCheck rfl) rfl rfl ?_
    refine s_y (y_field rfl T.fld99_2 rfl) rfl rfl ?_
    refine s_y (y_ldB T.ty31 rfl hr24 rfl) rfl rfl ?_
    refine s_y (y_in Tryd.underlying31 rfl rfl) rfl rfl ?_
    refine s_y (y_move rfl) rfl rfl ?_
    refine s_skip ⟨_, _, _, _, rfl, rfl, rfl, rfl⟩ rfl ?_
    refine s_skip ⟨_, _, _, _, rfl, rfl, rfl, rfl⟩ rfl ?_
    refine s_y (y_pick rfl rfl rfl rfl) rfl rfl ?_
    refine s_nil ?_
    refine n_then ?_
    refine c_false rfl ?_
    refine c_skip ?_
    refine n_then ?_
    refine c_seq ?_
    refine c_region ?_
    refine s_y (y_move rfl) rfl rfl ?_
    refine s_d (d_callR T.ent62 (vs := [.pointer (some ⟨g9, 0, none⟩)]) rfl (host_err g9 at21 gE22 A g o c b _ hb hr24) (by rintro e w' ⟨_, rfl, -⟩; exact ⟨_, rfl⟩)) rfl rfl ?_
    rintro v342 w340 ⟨hv339, hv343, f341⟩
    obtain rfl := ret_inj hv343
    replace hG := hG.fr0 f341
    replace hfa25 := hfa25.fr0 f341
    replace hw := hw.fr0 f341
    replace b3 := b3.fr0 f341
    replace hr24 := hr24.fr0 f341
    have hF344 := hF338.then0 f341
    refine s_d (d_alloc (cs := [.int .u8 0, .int .u8 0, .int .u8 0, .int .u8 0, .string ⟨[].toArray⟩]) T.zero27 rfl) rfl rfl ?_
    rintro _ w346 ⟨g345, rfl, hg349, b347, f348⟩
    have ne350 := row_ne_new hw hg349
    have ne351 : g1 ≠ g345 := Nat.ne_of_lt (Nat.lt_of_lt_of_le b3.lt hg349)
    have ne352 : g9 ≠ g345 := Nat.ne_of_lt (Nat.lt_of_lt_of_le hr24.lt hg349)
    have nw353 := Nat.le_trans hF344.size hg349
    replace hG := hG.fr0 f348
    replace hfa25 := hfa25.fr0 f348
    replace hw := hw.fr0 f348
    replace b3 := b3.fr0 f348
    replace hr24 := hr24.fr0 f348
    have hF354 := hF344.then0 f348
    refine s_d (d_store (cs := [.int .u8 ↑hv339.ad.a.toNat, .int .u8 ↑hv339.ad.b.toNat, .int .u8 ↑hv339.ad.c.toNat, .int .u8 ↑hv339.ad.d.toNat, .string ⟨hv339.n.toArray⟩]) (l' := [.int .u8 ↑hv339.ad.a.toNat, .int .u8 ↑hv339.ad.b.toNat, .int .u8 ↑hv339.ad.c.toNat, .int .u8 ↑hv339.ad.d.toNat, .string ⟨hv339.n.toArray⟩]) T.ty27 rfl rfl b347 rfl rfl (ones rfl) (Nat.le_of_ble_eq_true rfl) rfl) rfl rfl ?_
    rintro _ w355 ⟨rfl, b356, f357⟩
    replace hG := hG.fr f357 (by simp only [List.mem_cons, List.not_mem_nil, or_false, not_or]; exact by omega)
    replace hfa25 := hfa25.fr f357 (nf_cons (nf_blk b347 (by decide)) (nf_nil _ _))
    replace hw := hw.fr1 f357 ne350
    replace b3 := b3.fr1 f357 ne351
    replace hr24 := hr24.fr1 f357 ne352
    clear b347
    have hF358 := hF354.thenNew f357 nw353
    refine s_nil ?_
    refine n_then ?_
    refine c_seq ?_
    refine c_region ?_
    refine s_y (y_move rfl) rfl rfl ?_
    refine s_d (d_callR T.ent63 (vs := [.pointer (some ⟨g9, 0, none⟩), .int .i64 2]) rfl (take_err g9 at21 gE22 2 A g o c b _ (by omega) hb hr24) (by rintro e w' ⟨_, rfl, -⟩; exact ⟨_, rfl⟩)) rfl rfl ?_
    rintro v364 w362 ⟨gN359, hv365, f363, hg360, hb361⟩
    obtain rfl := ret_inj hv365
    have ne366 := row_ne_new hw hg360
    have ne367 : g1 ≠ gN359 := Nat.ne_of_lt (Nat.lt_of_lt_of_le b3.lt hg360)
    have ne368 : g9 ≠ gN359 := Nat.ne_of_lt (Nat.lt_of_lt_of_le hr24.lt hg360)
    have ne369 : g345 ≠ gN359 := Nat.ne_of_lt (Nat.lt_of_lt_of_le b356.lt hg360)
    have nw370 := Nat.le_trans hF358.size hg360
    replace hG := hG.fr0 f363
    replace hfa25 := hfa25.fr0 f363
    replace hw := hw.fr0 f363
    replace b3 := b3.fr0 f363
    replace hr24 := hr24.fr0 f363
    replace b356 := b356.fr0 f363
    have hF371 := hF358.then0 f363
    refine s_y (y_assign rfl) rfl rfl ?_
    refine s_nil ?_
    refine n_then ?_
    refine c_seq ?_
    refine c_seq ?_
    refine c_region ?_
    refine s_y (y_move rfl) rfl rfl ?_
    refine s_y (y_nilCheck rfl) rfl rfl ?_
    refine s_y (y_field rfl T.fld99_2 rfl) rfl rfl ?_
    refine s_y (y_ldB T.ty31 rfl hr24 rfl) rfl rfl ?_
    refine s_y (y_inx Tryd.underlying31 rfl rfl) rfl rfl ?_
    refine s_nil ?_
    refine n_then ?_
    refine c_true rfl ?_
    refine c_seq ?_
    refine dr_begin (fun W => Row W A g o b.length 1 (b.map bv) ∧ Blk W g9 99 [.slice A b.length c, .int .i64 ↑at21, .iface 136 (.pointer (some ⟨gE22, 0, none⟩))] ∧ Blk W g345 27 [.int .u8 ↑hv339.ad.a.toNat, .int .u8 ↑hv339.ad.b.toNat, .int .u8 ↑hv339.ad.c.toNat, .int .u8 ↑hv339.ad.d.toNat, .string ⟨hv339.n.toArray⟩] ∧ Blk W gN359 5 (List.replicate 2 (.int .u8 0))) 9 (by kernel_rfl) ?_
    intro w372 f373
    replace hG := hG.fr0 f373
    replace hfa25 := hfa25.fr0 f373
    replace hw := hw.fr0 f373
    replace b3 := b3.fr0 f373
    replace hr24 := hr24.fr0 f373
    replace b356 := b356.fr0 f373
    replace hb361 := hb361.fr0 f373
    have hF374 := hF371.then0 f373
    refine dr_y 0 rfl (fun _ => y_build (vs := []) rfl (T.bz29 _)) rfl (by kernel_rfl) (qp_then (qp_then qp_body)) (fun _ => ⟨hw, hr24, b356, hb361⟩) ?_
    refine dr_y 1 rfl (fun _ => y_move rfl) rfl (by kernel_rfl) (qp_then (qp_then qp_body)) (fun _ => ⟨hw, hr24, b356, hb361⟩) ?_
    refine dr_y 2 rfl (fun _ => y_nilCheck rfl) rfl (by kernel_rfl) (qp_then (qp_then qp_body)) (fun _ => ⟨hw, hr24, b356, hb361⟩) ?_
    refine dr_y 3 rfl (fun _ => y_field rfl T.fld99_2 rfl) rfl (by kernel_rfl) (qp_then (qp_then qp_body)) (fun _ => ⟨hw, hr24, b356, hb361⟩) ?_
    refine dr_l 4 rfl (fun _ hS => by obtain ⟨q0, q1, q2, q3⟩ := hS; exact y_ldB T.ty31 rfl q1 rfl) rfl (by kernel_rfl) (qp_then (qp_then qp_body)) ⟨hw, hr24, b356, hb361⟩ ?_
    refine dr_y 5 rfl (fun _ => y_assign rfl) rfl (by kernel_rfl) (qp_then (qp_then qp_body)) (fun _ => ⟨hw, hr24, b356, hb361⟩) ?_
    refine dr_1 (i := 6) (by kernel_rfl) ?_
    refine rd_d rfl (d_store (cs := [.int .u8 0, .int .u8 0, .int .u8 0, .int .u8 0, .string ⟨[].toArray⟩, .int .i64 0]) (l' := [.int .u8 0, .int .u8 0, .int .u8 0, .int .u8 0, .string ⟨[].toArray⟩, .int .i64 0]) T.ty29 rfl rfl b3 rfl rfl (ones rfl) (Nat.le_of_ble_eq_true rfl) rfl) rfl rfl ?_
    rintro _ w375 ⟨rfl, b376, f377⟩
    replace hG := hG.fr f377 (by simp only [List.mem_cons, List.not_mem_nil, or_false, not_or]; exact by omega)
    replace hfa25 := hfa25.fr f377 (nf_cons (nf_blk b3 (by decide)) (nf_nil _ _))
    replace hw := hw.fr1 f377 ne6
    replace hr24 := hr24.fr1 f377 ne15.symm
    replace b356 := b356.fr1 f377 ne351.symm
    replace hb361 := hb361.fr1 f377 ne367.symm
    clear b3
    have hF378 := hF374.thenNew f377 nw7
    refine ⟨fun _ => ⟨hw, hr24, b356, hb361⟩, ?_⟩
    refine dr_y 7 rfl (fun _ => y_assign rfl) rfl (by kernel_rfl) (qp_then (qp_then qp_body)) (fun _ => ⟨hw, hr24, b356, hb361⟩) ?_
    refine dr_y 8 rfl (fun _ => y_assign rfl) rfl (by kernel_rfl) (qp_then (qp_then qp_body)) (fun _ => ⟨hw, hr24, b356, hb361⟩) ?_
    refine dr_done (by kernel_rfl) ?_
    refine n_then ?_
    refine c_ret ?_
    refine r_then ?_
    refine fin4 (by simp) rfl rfl (rv_A (xs := [.int .u8 0, .int .u8 0, .int .u8 0, .int .u8 0, .string ⟨[].toArray⟩, .int .i64 0]) T.ty29 rfl b376 rfl rfl) rfl rfl ?_
    have hp := req_v b hfa25.ne
    exact ⟨Ds.zero, _, 0, 0, rfl, hF378, .inr ⟨_, rfl, rfl, rfl, rfl, by omega, by rw [hp]; exact hfa25⟩⟩

end Go.Proofs.YtcnepgnfecoeoaaDoor
