/- Names of hosts: kinds of bytes. No condition. -/
import Derived.Test.YtcnepgnfecoeoaaDoorLbs
import Derived.Test.YtcnepgnfecoeoaaDoorGMem4
import Derived.Test.YtcnepgnfecoeoaaDoorAT
import Derived.Test.YtcnepgnfecoeoaaDoorProg
set_option linter.unusedVariables false
set_option linter.unusedSimpArgs false
namespace Go.Proofs.YtcnepgnfecoeoaaDoor
open Go Go.Proofs.GP Go.Proofs.Tryd
set_option maxHeartbeats 8000000 in
set_option maxRecDepth 100000 in
theorem kind_ok (c : UInt8) (w : World) :
    Calls Tryd.prog 127 #[.int .u8 ↑c.toNat] w fun e w' => e = .returned (.int .i64 (kindL c)) ∧ Fr [] w w' := by
  refine c_start (args := [.int .u8 ↑c.toNat]) Tryd.func127 rfl rfl rfl ?_
  try simp only [enum, Nat.zero_add, Nat.reduceAdd]
  have hF0 := Fr.refl [] w
  refine c_seq ?_
  refine c_region ?_
  refine s_y (y_assign rfl) rfl rfl ?_
  refine s_nil ?_
  refine n_then ?_
  refine c_seq ?_
  refine c_block ?_
  refine c_seq ?_
  refine c_block ?_
  refine c_block ?_
  refine c_seq ?_
  refine c_block ?_
  refine c_seq ?_
  refine c_block ?_
  refine c_seq ?_
  refine c_block ?_
  refine c_seq ?_
  refine c_seq ?_
  refine c_seq ?_
  refine c_region ?_
  refine s_y (y_move rfl) rfl rfl ?_
  refine s_y (y_eql rfl rfl rfl) rfl rfl ?_
  refine s_y (y_assign rfl) rfl rfl ?_
  refine s_nil ?_
  refine n_then ?_
  refine c_cond rfl ?_ ?_
  · intro h1
    replace h1 : (↑c.toNat : Int) = 46 := of_decide_eq_true h1
    refine c_exit ?_
    refine x_then ?_
    refine x_then ?_
    refine x_hit ?_
    refine n_then ?_
    refine c_seq ?_
    refine c_seq ?_
    refine c_region ?_
    refine s_y (y_assign rfl) rfl rfl ?_
    refine s_nil ?_
    refine n_then ?_
    refine c_ret ?_
    refine r_then ?_
    refine r_inb ?_
    refine r_then ?_
    refine r_inb ?_
    refine r_then ?_
    refine r_inb ?_
    refine r_inb ?_
    refine r_then ?_
    refine r_inb ?_
    refine r_then ?_
    refine fin1 (by simp) rfl rfl ?_
    exact ⟨by rw [show kindL c = 1 from by unfold kindL; (repeat' split) <;> omega], hF0⟩
  · intro h2
    replace h2 : ¬ ((↑c.toNat : Int) = 46) := of_decide_eq_false h2
    refine c_skip ?_
    refine n_then ?_
    refine c_seq ?_
    refine c_seq ?_
    refine c_region ?_
    refine s_y (y_move rfl) rfl rfl ?_
    refine s_y (y_geq rfl rfl rfl) rfl rfl ?_
    refine s_y (y_move rfl) rfl rfl ?_
    refine wl_bool (decide ((48 : Int) ≤ ↑c.toNat)) ?_ ?_
    · intro hb3
      rw [hb3]
      have hp4 : (48 : Int) ≤ ↑c.toNat := of_decide_eq_true hb3
      clear hb3
      refine s_gy (y_move rfl) ⟨_, _, _, _, rfl, rfl, rfl, rfl⟩ rfl ?_
      refine s_gy (y_leq rfl rfl rfl) ⟨_, _, _, _, rfl, rfl, rfl, rfl⟩ rfl ?_
      refine s_y (y_pick rfl rfl rfl rfl) rfl rfl ?_
      refine s_y (y_assign rfl) rfl rfl ?_
      refine s_nil ?_
      refine n_then ?_
      refine c_cond rfl ?_ ?_
      · intro h5
        replace h5 : (↑c.toNat : Int) ≤ 57 := of_decide_eq_true h5
        refine c_exit ?_
        refine x_then ?_
        refine x_then ?_
        refine x_miss rfl ?_
        refine x_then ?_
        refine x_hit ?_
        refine n_then ?_
        refine c_seq ?_
        refine c_seq ?_
        refine c_region ?_
        refine s_y (y_assign rfl) rfl rfl ?_
        refine s_nil ?_
        refine n_then ?_
        refine c_ret ?_
        refine r_then ?_
        refine r_inb ?_
        refine r_then ?_
        refine r_inb ?_
        refine r_inb ?_
        refine r_then ?_
        refine r_inb ?_
        refine r_then ?_
        refine fin1 (by simp) rfl rfl ?_
        exact ⟨by rw [show kindL c = 2 from by unfold kindL; (repeat' split) <;> omega], hF0⟩
      · intro h6
        replace h6 : ¬ ((↑c.toNat : Int) ≤ 57) := of_decide_eq_false h6
        refine c_skip ?_
        refine n_then ?_
        refine c_seq ?_
        refine c_seq ?_
        refine c_region ?_
        refine s_y (y_move rfl) rfl rfl ?_
        refine s_y (y_eql rfl rfl rfl) rfl rfl ?_
        refine s_y (y_assign rfl) rfl rfl ?_
        refine s_nil ?_
        refine n_then ?_
        refine c_cond rfl ?_ ?_
        · intro h7
          replace h7 : (↑c.toNat : Int) = 45 := of_decide_eq_true h7
          refine c_exit ?_
          refine x_then ?_
          refine x_then ?_
          refine x_miss rfl ?_
          refine x_then ?_
          refine x_miss rfl ?_
          refine x_then ?_
          refine x_hit ?_
          refine n_then ?_
          refine c_seq ?_
          refine c_seq ?_
          refine c_region ?_
          refine s_y (y_assign rfl) rfl rfl ?_
          refine s_nil ?_
          refine n_then ?_
          refine c_ret ?_
          refine r_then ?_
          refine r_inb ?_
          refine r_inb ?_
          refine r_then ?_
          refine r_inb ?_
          refine r_then ?_
          refine fin1 (by simp) rfl rfl ?_
          exact ⟨by rw [show kindL c = 3 from by unfold kindL; (repeat' split) <;> omega], hF0⟩
        · intro h8
          replace h8 : ¬ ((↑c.toNat : Int) = 45) := of_decide_eq_false h8
          refine c_skip ?_
          refine n_then ?_
          refine c_seq ?_
          refine c_seq ?_
          refine c_region ?_
          refine s_y (y_move rfl) rfl rfl ?_
          refine s_y (y_geq rfl rfl rfl) rfl rfl ?_
          refine s_y (y_move rfl) rfl rfl ?_
          refine wl_bool (decide ((65 : Int) ≤ ↑c.toNat)) ?_ ?_
          · intro hb9
            rw [hb9]
            have hp10 : (65 : Int) ≤ ↑c.toNat := of_decide_eq_true hb9
            clear hb9
            refine s_gy (y_move rfl) ⟨_, _, _, _, rfl, rfl, rfl, rfl⟩ rfl ?_
            refine s_gy (y_leq rfl rfl rfl) ⟨_, _, _, _, rfl, rfl, rfl, rfl⟩ rfl ?_
            refine s_y (y_pick rfl rfl rfl rfl) rfl rfl ?_
            refine s_y (y_assign rfl) rfl rfl ?_
            refine s_nil ?_
            refine n_then ?_
            refine c_cond rfl ?_ ?_
            · intro h11
              replace h11 : (↑c.toNat : Int) ≤ 90 := of_decide_eq_true h11
              refine c_exit ?_
              refine x_then ?_
              refine x_then ?_
              refine x_miss rfl ?_
              refine x_then ?_
              refine x_miss rfl ?_
              refine x_then ?_
              refine x_miss rfl ?_
              refine x_then ?_
              refine x_hit ?_
              refine n_inb ?_
              refine n_then ?_
              refine c_seq ?_
              refine c_seq ?_
              refine c_region ?_
              refine s_y (y_assign rfl) rfl rfl ?_
              refine s_nil ?_
              refine n_then ?_
              refine c_ret ?_
              refine r_then ?_
              refine r_inb ?_
              refine r_then ?_
              refine fin1 (by simp) rfl rfl ?_
              exact ⟨by rw [show kindL c = 4 from by unfold kindL; (repeat' split) <;> omega], hF0⟩
            · intro h12
              replace h12 : ¬ ((↑c.toNat : Int) ≤ 90) := of_decide_eq_false h12
              refine c_skip ?_
              refine n_then ?_
              refine c_seq ?_
              refine c_region ?_
              refine s_y (y_move rfl) rfl rfl ?_
              refine s_y (y_geq rfl rfl rfl) rfl rfl ?_
              refine s_y (y_move rfl) rfl rfl ?_
              refine wl_bool (decide ((97 : Int) ≤ ↑c.toNat)) ?_ ?_
              · intro hb13
                rw [hb13]
                have hp14 : (97 : Int) ≤ ↑c.toNat := of_decide_eq_true hb13
                clear hb13
                refine s_gy (y_move rfl) ⟨_, _, _, _, rfl, rfl, rfl, rfl⟩ rfl ?_
                refine s_gy (y_leq rfl rfl rfl) ⟨_, _, _, _, rfl, rfl, rfl, rfl⟩ rfl ?_
                refine s_y (y_pick rfl rfl rfl rfl) rfl rfl ?_
                refine s_y (y_assign rfl) rfl rfl ?_
                refine s_nil ?_
                refine n_then ?_
                refine c_cond rfl ?_ ?_
                · intro h15
                  replace h15 : (↑c.toNat : Int) ≤ 122 := of_decide_eq_true h15
                  refine c_exit ?_
                  refine x_then ?_
                  refine x_miss rfl ?_
                  refine x_then ?_
                  refine x_miss rfl ?_
                  refine x_then ?_
                  refine x_miss rfl ?_
                  refine x_then ?_
                  refine x_miss rfl ?_
                  refine x_hit ?_
                  refine n_then ?_
                  refine c_seq ?_
                  refine c_seq ?_
                  refine c_region ?_
                  refine s_y (y_assign rfl) rfl rfl ?_
                  refine s_nil ?_
                  refine n_then ?_
                  refine c_ret ?_
                  refine r_then ?_
                  refine r_inb ?_
                  refine r_then ?_
                  refine fin1 (by simp) rfl rfl ?_
                  exact ⟨by rw [show kindL c = 4 from by unfold kindL; (repeat' split) <;> omega], hF0⟩
                · intro h16
                  replace h16 : ¬ ((↑c.toNat : Int) ≤ 122) := of_decide_eq_false h16
                  refine c_skip ?_
                  refine n_then ?_
                  refine c_exit ?_
                  refine x_miss rfl ?_
                  refine x_then ?_
                  refine x_miss rfl ?_
                  refine x_then ?_
                  refine x_miss rfl ?_
                  refine x_then ?_
                  refine x_miss rfl ?_
                  refine x_miss rfl ?_
                  refine x_then ?_
                  refine x_hit ?_
                  refine n_then ?_
                  refine c_seq ?_
                  refine c_region ?_
                  refine s_y (y_assign rfl) rfl rfl ?_
                  refine s_nil ?_
                  refine n_then ?_
                  refine c_ret ?_
                  refine fin1 (by simp) rfl rfl ?_
                  exact ⟨by rw [show kindL c = 0 from by unfold kindL; (repeat' split) <;> omega], hF0⟩
              · intro hb13
                rw [hb13]
                have hp17 : ¬ ((97 : Int) ≤ ↑c.toNat) := of_decide_eq_false hb13
                clear hb13
                refine s_skip ⟨_, _, _, _, rfl, rfl, rfl, rfl⟩ rfl ?_
                refine s_skip ⟨_, _, _, _, rfl, rfl, rfl, rfl⟩ rfl ?_
                refine s_y (y_pick rfl rfl rfl rfl) rfl rfl ?_
                refine s_y (y_assign rfl) rfl rfl ?_
                refine s_nil ?_
                refine n_then ?_
                refine c_false rfl ?_
                refine c_skip ?_
                refine n_then ?_
                refine c_exit ?_
                refine x_miss rfl ?_
                refine x_then ?_
                refine x_miss rfl ?_
                refine x_then ?_
                refine x_miss rfl ?_
                refine x_then ?_
                refine x_miss rfl ?_
                refine x_miss rfl ?_
                refine x_then ?_
                refine x_hit ?_
                refine n_then ?_
                refine c_seq ?_
                refine c_region ?_
                refine s_y (y_assign rfl) rfl rfl ?_
                refine s_nil ?_
                refine n_then ?_
                refine c_ret ?_
                refine fin1 (by simp) rfl rfl ?_
                exact ⟨by rw [show kindL c = 0 from by unfold kindL; (repeat' split) <;> omega], hF0⟩
          · intro hb9
            rw [hb9]
            have hp18 : ¬ ((65 : Int) ≤ ↑c.toNat) := of_decide_eq_false hb9
            clear hb9
            refine s_skip ⟨_, _, _, _, rfl, rfl, rfl, rfl⟩ rfl ?_
            refine s_skip ⟨_, _, _, _, rfl, rfl, rfl, rfl⟩ rfl ?_
            refine s_y (y_pick rfl rfl rfl rfl) rfl rfl ?_
            refine s_y (y_assign rfl) rfl rfl ?_
            refine s_nil ?_
            refine n_then ?_
            refine c_false rfl ?_
            refine c_skip ?_
            refine n_then ?_
            refine c_seq ?_
            refine c_region ?_
            refine s_y (y_move rfl) rfl rfl ?_
            refine s_y (y_geq rfl rfl rfl) rfl rfl ?_
            refine s_y (y_move rfl) rfl rfl ?_
            refine wl_bool (decide ((97 : Int) ≤ ↑c.toNat)) ?_ ?_
            · intro hb19
              rw [hb19]
              have hp20 : (97 : Int) ≤ ↑c.toNat := of_decide_eq_true hb19
              clear hb19
              refine s_gy (y_move rfl) ⟨_, _, _, _, rfl, rfl, rfl, rfl⟩ rfl ?_
              refine s_gy (y_leq rfl rfl rfl) ⟨_, _, _, _, rfl, rfl, rfl, rfl⟩ rfl ?_
              refine s_y (y_pick rfl rfl rfl rfl) rfl rfl ?_
              refine s_y (y_assign rfl) rfl rfl ?_
              refine s_nil ?_
              refine n_then ?_
              refine c_cond rfl ?_ ?_
              · intro h21
                replace h21 : (↑c.toNat : Int) ≤ 122 := of_decide_eq_true h21
                refine c_exit ?_
                refine x_then ?_
                refine x_miss rfl ?_
                refine x_then ?_
                refine x_miss rfl ?_
                refine x_then ?_
                refine x_miss rfl ?_
                refine x_then ?_
                refine x_miss rfl ?_
                refine x_hit ?_
                refine n_then ?_
                refine c_seq ?_
                refine c_seq ?_
                refine c_region ?_
                refine s_y (y_assign rfl) rfl rfl ?_
                refine s_nil ?_
                refine n_then ?_
                refine c_ret ?_
                refine r_then ?_
                refine r_inb ?_
                refine r_then ?_
                refine fin1 (by simp) rfl rfl ?_
                exact ⟨by rw [show kindL c = 4 from by unfold kindL; (repeat' split) <;> omega], hF0⟩
              · intro h22
                replace h22 : ¬ ((↑c.toNat : Int) ≤ 122) := of_decide_eq_false h22
                refine c_skip ?_
                refine n_then ?_
                refine c_exit ?_
                refine x_miss rfl ?_
                refine x_then ?_
                refine x_miss rfl ?_
                refine x_then ?_
                refine x_miss rfl ?_
                refine x_then ?_
                refine x_miss rfl ?_
                refine x_miss rfl ?_
                refine x_then ?_
                refine x_hit ?_
                refine n_then ?_
                refine c_seq ?_
                refine c_region ?_
                refine s_y (y_assign rfl) rfl rfl ?_
                refine s_nil ?_
                refine n_then ?_
                refine c_ret ?_
                refine fin1 (by simp) rfl rfl ?_
                exact ⟨by rw [show kindL c = 0 from by unfold kindL; (repeat' split) <;> omega], hF0⟩
            · intro hb19
              rw [hb19]
              have hp23 : ¬ ((97 : Int) ≤ ↑c.toNat) := of_decide_eq_false hb19
              clear hb19
              refine s_skip ⟨_, _, _, _, rfl, rfl, rfl, rfl⟩ rfl ?_
              refine s_skip ⟨_, _, _, _, rfl, rfl, rfl, rfl⟩ rfl ?_
              refine s_y (y_pick rfl rfl rfl rfl) rfl rfl ?_
              refine s_y (y_assign rfl) rfl rfl ?_
              refine s_nil ?_
              refine n_then ?_
              refine c_false rfl ?_
              refine c_skip ?_
              refine n_then ?_
              refine c_exit ?_
              refine x_miss rfl ?_
              refine x_then ?_
              refine x_miss rfl ?_
              refine x_then ?_
              refine x_miss rfl ?_
              refine x_then ?_
              refine x_miss rfl ?_
              refine x_miss rfl ?_
              refine x_then ?_
              refine x_hit ?_
              refine n_then ?_
              refine c_seq ?_
              refine c_region ?_
              refine s_y (y_assign rfl) rfl rfl ?_
              refine s_nil ?_
              refine n_then ?_
              refine c_ret ?_
              refine fin1 (by simp) rfl rfl ?_
              exact ⟨by rw [show kindL c = 0 from by unfold kindL; (repeat' split) <;> omega], hF0⟩
    · intro hb3
      rw [hb3]
      have hp24 : ¬ ((48 : Int) ≤ ↑c.toNat) := of_decide_eq_false hb3
      clear hb3
      refine s_skip ⟨_, _, _, _, rfl, rfl, rfl, rfl⟩ rfl ?_
      refine s_skip ⟨_, _, _, _, rfl, rfl, rfl, rfl⟩ rfl ?_
      refine s_y (y_pick rfl rfl rfl rfl) rfl rfl ?_
      refine s_y (y_assign rfl) rfl rfl ?_
      refine s_nil ?_
      refine n_then ?_
      refine c_false rfl ?_
      refine c_skip ?_
      refine n_then ?_
      refine c_seq ?_
      refine c_seq ?_
      refine c_region ?_
      refine s_y (y_move rfl) rfl rfl ?_
      refine s_y (y_eql rfl rfl rfl) rfl rfl ?_
      refine s_y (y_assign rfl) rfl rfl ?_
      refine s_nil ?_
      refine n_then ?_
      refine c_cond rfl ?_ ?_
      · intro h25
        replace h25 : (↑c.toNat : Int) = 45 := of_decide_eq_true h25
        refine c_exit ?_
        refine x_then ?_
        refine x_then ?_
        refine x_miss rfl ?_
        refine x_then ?_
        refine x_miss rfl ?_
        refine x_then ?_
        refine x_hit ?_
        refine n_then ?_
        refine c_seq ?_
        refine c_seq ?_
        refine c_region ?_
        refine s_y (y_assign rfl) rfl rfl ?_
        refine s_nil ?_
        refine n_then ?_
        refine c_ret ?_
        refine r_then ?_
        refine r_inb ?_
        refine r_inb ?_
        refine r_then ?_
        refine r_inb ?_
        refine r_then ?_
        refine fin1 (by simp) rfl rfl ?_
        exact ⟨by rw [show kindL c = 3 from by unfold kindL; (repeat' split) <;> omega], hF0⟩
      · intro h26
        replace h26 : ¬ ((↑c.toNat : Int) = 45) := of_decide_eq_false h26
        refine c_skip ?_
        refine n_then ?_
        refine c_seq ?_
        refine c_seq ?_
        refine c_region ?_
        refine s_y (y_move rfl) rfl rfl ?_
        refine s_y (y_geq rfl rfl rfl) rfl rfl ?_
        refine s_y (y_move rfl) rfl rfl ?_
        refine wl_bool (decide ((65 : Int) ≤ ↑c.toNat)) ?_ ?_
        · intro hb27
          rw [hb27]
          have hp28 : (65 : Int) ≤ ↑c.toNat := of_decide_eq_true hb27
          clear hb27
          refine s_gy (y_move rfl) ⟨_, _, _, _, rfl, rfl, rfl, rfl⟩ rfl ?_
          refine s_gy (y_leq rfl rfl rfl) ⟨_, _, _, _, rfl, rfl, rfl, rfl⟩ rfl ?_
          refine s_y (y_pick rfl rfl rfl rfl) rfl rfl ?_
          refine s_y (y_assign rfl) rfl rfl ?_
          refine s_nil ?_
          refine n_then ?_
          refine c_cond rfl ?_ ?_
          · intro h29
            replace h29 : (↑c.toNat : Int) ≤ 90 := of_decide_eq_true h29
            refine c_exit ?_
            refine x_then ?_
            refine x_then ?_
            refine x_miss rfl ?_
            refine x_then ?_
            refine x_miss rfl ?_
            refine x_then ?_
            refine x_miss rfl ?_
            refine x_then ?_
            refine x_hit ?_
            refine n_inb ?_
            refine n_then ?_
            refine c_seq ?_
            refine c_seq ?_
            refine c_region ?_
            refine s_y (y_assign rfl) rfl rfl ?_
            refine s_nil ?_
            refine n_then ?_
            refine c_ret ?_
            refine r_then ?_
            refine r_inb ?_
            refine r_then ?_
            refine fin1 (by simp) rfl rfl ?_
            exact ⟨by rw [show kindL c = 4 from by unfold kindL; (repeat' split) <;> omega], hF0⟩
          · intro h30
            replace h30 : ¬ ((↑c.toNat : Int) ≤ 90) := of_decide_eq_false h30
            refine c_skip ?_
            refine n_then ?_
            refine c_seq ?_
            refine c_region ?_
            refine s_y (y_move rfl) rfl rfl ?_
            refine s_y (y_geq rfl rfl rfl) rfl rfl ?_
            refine s_y (y_move rfl) rfl rfl ?_
            refine wl_bool (decide ((97 : Int) ≤ ↑c.toNat)) ?_ ?_
            · intro hb31
              rw [hb31]
              have hp32 : (97 : Int) ≤ ↑c.toNat := of_decide_eq_true hb31
              clear hb31
              refine s_gy (y_move rfl) ⟨_, _, _, _, rfl, rfl, rfl, rfl⟩ rfl ?_
              refine s_gy (y_leq rfl rfl rfl) ⟨_, _, _, _, rfl, rfl, rfl, rfl⟩ rfl ?_
              refine s_y (y_pick rfl rfl rfl rfl) rfl rfl ?_
              refine s_y (y_assign rfl) rfl rfl ?_
              refine s_nil ?_
              refine n_then ?_
              refine c_cond rfl ?_ ?_
              · intro h33
                replace h33 : (↑c.toNat : Int) ≤ 122 := of_decide_eq_true h33
                refine c_exit ?_
                refine x_then ?_
                refine x_miss rfl ?_
                refine x_then ?_
                refine x_miss rfl ?_
                refine x_then ?_
                refine x_miss rfl ?_
                refine x_then ?_
                refine x_miss rfl ?_
                refine x_hit ?_
                refine n_then ?_
                refine c_seq ?_
                refine c_seq ?_
                refine c_region ?_
                refine s_y (y_assign rfl) rfl rfl ?_
                refine s_nil ?_
                refine n_then ?_
                refine c_ret ?_
                refine r_then ?_
                refine r_inb ?_
                refine r_then ?_
                refine fin1 (by simp) rfl rfl ?_
                exact ⟨by rw [show kindL c = 4 from by unfold kindL; (repeat' split) <;> omega], hF0⟩
              · intro h34
                replace h34 : ¬ ((↑c.toNat : Int) ≤ 122) := of_decide_eq_false h34
                refine c_skip ?_
                refine n_then ?_
                refine c_exit ?_
                refine x_miss rfl ?_
                refine x_then ?_
                refine x_miss rfl ?_
                refine x_then ?_
                refine x_miss rfl ?_
                refine x_then ?_
                refine x_miss rfl ?_
                refine x_miss rfl ?_
                refine x_then ?_
                refine x_hit ?_
                refine n_then ?_
                refine c_seq ?_
                refine c_region ?_
                refine s_y (y_assign rfl) rfl rfl ?_
                refine s_nil ?_
                refine n_then ?_
                refine c_ret ?_
                refine fin1 (by simp) rfl rfl ?_
                exact ⟨by rw [show kindL c = 0 from by unfold kindL; (repeat' split) <;> omega], hF0⟩
            · intro hb31
              rw [hb31]
              have hp35 : ¬ ((97 : Int) ≤ ↑c.toNat) := of_decide_eq_false hb31
              clear hb31
              refine s_skip ⟨_, _, _, _, rfl, rfl, rfl, rfl⟩ rfl ?_
              refine s_skip ⟨_, _, _, _, rfl, rfl, rfl, rfl⟩ rfl ?_
              refine s_y (y_pick rfl rfl rfl rfl) rfl rfl ?_
              refine s_y (y_assign rfl) rfl rfl ?_
              refine s_nil ?_
              refine n_then ?_
              refine c_false rfl ?_
              refine c_skip ?_
              refine n_then ?_
              refine c_exit ?_
              refine x_miss rfl ?_
              refine x_then ?_
              refine x_miss rfl ?_
              refine x_then ?_
              refine x_miss rfl ?_
              refine x_then ?_
              refine x_miss rfl ?_
              refine x_miss rfl ?_
              refine x_then ?_
              refine x_hit ?_
              refine n_then ?_
              refine c_seq ?_
              refine c_region ?_
              refine s_y (y_assign rfl) rfl rfl ?_
              refine s_nil ?_
              refine n_then ?_
              refine c_ret ?_
              refine fin1 (by simp) rfl rfl ?_
              exact ⟨by rw [show kindL c = 0 from by unfold kindL; (repeat' split) <;> omega], hF0⟩
        · intro hb27
          rw [hb27]
          have hp36 : ¬ ((65 : Int) ≤ ↑c.toNat) := of_decide_eq_false hb27
          clear hb27
          refine s_skip ⟨_, _, _, _, rfl, rfl, rfl, rfl⟩ rfl ?_
          refine s_skip ⟨_, _, _, _, rfl, rfl, rfl, rfl⟩ rfl ?_
          refine s_y (y_pick rfl rfl rfl rfl) rfl rfl ?_
          refine s_y (y_assign rfl) rfl rfl ?_
          refine s_nil ?_
          refine n_then ?_
          refine c_false rfl ?_
          refine c_skip ?_
          refine n_then ?_
          refine c_seq ?_
          refine c_region ?_
          refine s_y (y_move rfl) rfl rfl ?_
          refine s_y (y_geq rfl rfl rfl) rfl rfl ?_
          refine s_y (y_move rfl) rfl rfl ?_
          refine wl_bool (decide ((97 : Int) ≤ ↑c.toNat)) ?_ ?_
          · intro hb37
            rw [hb37]
            have hp38 : (97 : Int) ≤ ↑c.toNat := of_decide_eq_true hb37
            clear hb37
            refine s_gy (y_move rfl) ⟨_, _, _, _, rfl, rfl, rfl, rfl⟩ rfl ?_
            refine s_gy (y_leq rfl rfl rfl) ⟨_, _, _, _, rfl, rfl, rfl, rfl⟩ rfl ?_
            refine s_y (y_pick rfl rfl rfl rfl) rfl rfl ?_
            refine s_y (y_assign rfl) rfl rfl ?_
            refine s_nil ?_
            refine n_then ?_
            refine c_cond rfl ?_ ?_
            · intro h39
              replace h39 : (↑c.toNat : Int) ≤ 122 := of_decide_eq_true h39
              refine c_exit ?_
              refine x_then ?_
              refine x_miss rfl ?_
              refine x_then ?_
              refine x_miss rfl ?_
              refine x_then ?_
              refine x_miss rfl ?_
              refine x_then ?_
              refine x_miss rfl ?_
              refine x_hit ?_
              refine n_then ?_
              refine c_seq ?_
              refine c_seq ?_
              refine c_region ?_
              refine s_y (y_assign rfl) rfl rfl ?_
              refine s_nil ?_
              refine n_then ?_
              refine c_ret ?_
              refine r_then ?_
              refine r_inb ?_
              refine r_then ?_
              refine fin1 (by simp) rfl rfl ?_
              exact ⟨by rw [show kindL c = 4 from by unfold kindL; (repeat' split) <;> omega], hF0⟩
            · intro h40
              replace h40 : ¬ ((↑c.toNat : Int) ≤ 122) := of_decide_eq_false h40
              refine c_skip ?_
              refine n_then ?_
              refine c_exit ?_
              refine x_miss rfl ?_
              refine x_then ?_
              refine x_miss rfl ?_
              refine x_then ?_
              refine x_miss rfl ?_
              refine x_then ?_
              refine x_miss rfl ?_
              refine x_miss rfl ?_
              refine x_then ?_
              refine x_hit ?_
              refine n_then ?_
              refine c_seq ?_
              refine c_region ?_
              refine s_y (y_assign rfl) rfl rfl ?_
              refine s_nil ?_
              refine n_then ?_
              refine c_ret ?_
              refine fin1 (by simp) rfl rfl ?_
              exact ⟨by rw [show kindL c = 0 from by unfold kindL; (repeat' split) <;> omega], hF0⟩
          · intro hb37
            rw [hb37]
            have hp41 : ¬ ((97 : Int) ≤ ↑c.toNat) := of_decide_eq_false hb37
            clear hb37
            refine s_skip ⟨_, _, _, _, rfl, rfl, rfl, rfl⟩ rfl ?_
            refine s_skip ⟨_, _, _, _, rfl, rfl, rfl, rfl⟩ rfl ?_
            refine s_y (y_pick rfl rfl rfl rfl) rfl rfl ?_
            refine s_y (y_assign rfl) rfl rfl ?_
            refine s_nil ?_
            refine n_then ?_
            refine c_false rfl ?_
            refine c_skip ?_
            refine n_then ?_
            refine c_exit ?_
            refine x_miss rfl ?_
            refine x_then ?_
            refine x_miss rfl ?_
            refine x_then ?_
            refine x_miss rfl ?_
            refine x_then ?_
            refine x_miss rfl ?_
            refine x_miss rfl ?_
            refine x_then ?_
            refine x_hit ?_
            refine n_then ?_
            refine c_seq ?_
            refine c_region ?_
            refine s_y (y_assign rfl) rfl rfl ?_
            refine s_nil ?_
            refine n_then ?_
            refine c_ret ?_
            refine fin1 (by simp) rfl rfl ?_
            exact ⟨by rw [show kindL c = 0 from by unfold kindL; (repeat' split) <;> omega], hF0⟩

set_option maxHeartbeats 8000000 in
set_option maxRecDepth 100000 in
theorem only_ok (A : Option Addr) (g o c : Nat) (s : By) (ks : List Int) (w : World) (hs : s.length ≤ 1000) (hk : ks.length ≤ 1000) (hr : Row w A g o ks.length 1 (ks.map jv)) :
    Calls Tryd.prog 108 #[.string ⟨s.toArray⟩, .slice A ks.length c] w fun e w' => e = .returned (.bool (onlyL s ks)) ∧ Fr [] w w' := by
  refine c_start (args := [.string ⟨s.toArray⟩, .slice A ks.length c]) Tryd.func108 rfl rfl rfl ?_
  try simp only [enum, Nat.zero_add, Nat.reduceAdd]
  have hF0 := Fr.refl [] w
  have lt_hr := hr.lt'
  refine c_seq ?_
  refine c_region ?_
  refine s_y (y_assign rfl) rfl rfl ?_
  refine s_nil ?_
  refine n_then ?_
  refine c_seq ?_
  refine c_seq ?_
  refine c_region ?_
  refine s_y (y_move rfl) rfl rfl ?_
  refine s_y (y_lenS Tryd.underlying9 rfl) rfl rfl ?_
  refine s_y (y_move rfl) rfl rfl ?_
  refine s_nil ?_
  refine n_then ?_
  refine c_block ?_
  refine c_loop (fun m a W => ∃ i : Nat, m = s.length - i ∧ GP.St 33 [(0, .string ⟨s.toArray⟩), (1, .slice A ks.length c), (10, .int .i64 ↑s.length), (11, .int .i64 ↑i)] a ∧ Fr [] w W ∧ Row W A g o ks.length 1 (ks.map jv) ∧ (i ≤ s.length) ∧ ((s.take i).all (kin ks) = true)) (s.length) ?_ ?_
  · intro a ha
    exact ⟨0, rfl, ha.cut ⟨rfl, rfl, rfl, rfl, trivial⟩, hF0, hr, Nat.zero_le _, rfl⟩
  · rintro _ a W1 ⟨i, rfl, hst3, hF4, hr, hi, hall⟩
    refine (show Wc _ _ _ _ _ _ from ?_) a hst3
    clear hst3 a
    refine c_seq ?_
    refine c_region ?_
    refine s_y (y_lss rfl rfl rfl) rfl rfl ?_
    refine s_nil ?_
    refine n_then ?_
    refine c_seq ?_
    refine c_cond rfl ?_ ?_
    · intro h5
      replace h5 : (↑i : Int) < ↑s.length := of_decide_eq_true h5
      refine c_skip ?_
      refine n_then ?_
      refine c_seq ?_
      refine c_block ?_
      refine c_seq ?_
      refine c_region ?_
      refine s_y (y_move rfl) rfl rfl ?_
      refine s_y (y_assign rfl) rfl rfl ?_
      refine s_nil ?_
      refine n_then ?_
      refine c_seq ?_
      refine c_region ?_
      refine s_y (y_assign rfl) rfl rfl ?_
      refine s_nil ?_
      refine n_then ?_
      refine c_seq ?_
      refine c_seq ?_
      refine c_region ?_
      refine s_y (y_move rfl) rfl rfl ?_
      refine s_y (y_len Tryd.underlying53 rfl) rfl rfl ?_
      refine s_y (y_move rfl) rfl rfl ?_
      refine s_nil ?_
      refine n_then ?_
      refine c_block ?_
      refine c_loop (fun m a W => ∃ j : Nat, ∃ ob : Bool, m = ks.length - j ∧ GP.St 33 [(0, .string ⟨s.toArray⟩), (1, .slice A ks.length c), (5, .int .i64 ↑i), (6, .bool ob), (10, .int .i64 ↑s.length), (11, .int .i64 ↑i), (14, .slice A ks.length c), (15, .int .i64 ↑ks.length), (16, .int .i64 ↑j)] a ∧ Fr [] w W ∧ Row W A g o ks.length 1 (ks.map jv) ∧ (j ≤ ks.length) ∧ (ob = (ks.take j).any fun k => decide (kindL (s.getD i 0) = k))) (ks.length) ?_ ?_
      · intro a ha
        exact ⟨0, false, rfl, ha.cut ⟨rfl, rfl, rfl, rfl, rfl, rfl, rfl, rfl, rfl, trivial⟩, hF4, hr, Nat.zero_le _, rfl⟩
      · rintro _ a W6 ⟨j, ob, rfl, hst8, hF9, hr, hj, hob⟩
        refine (show Wc _ _ _ _ _ _ from ?_) a hst8
        clear hst8 a
        refine c_seq ?_
        refine c_region ?_
        refine s_y (y_lss rfl rfl rfl) rfl rfl ?_
        refine s_nil ?_
        refine n_then ?_
        refine c_seq ?_
        refine c_cond rfl ?_ ?_
        · intro h10
          replace h10 : (↑j : Int) < ↑ks.length := of_decide_eq_true h10
          refine c_skip ?_
          refine n_then ?_
          refine c_seq ?_
          refine c_block ?_
          refine c_seq ?_
          refine c_region ?_
          refine s_y (y_index (r := o + j) Tryd.underlying53 T.ty3 rfl rfl (hr.addr (j := j) (by simp; omega)) (by omega) (by omega) (by omega)) rfl rfl ?_
          refine s_y (y_ldR (v := .int .i64 (ks.getD j 0)) (j := j) T.ty3 rfl hr (by first | rfl | omega) (map_at jv ks j 0 (by omega))) rfl rfl ?_
          refine s_y (y_assign rfl) rfl rfl ?_
          refine s_nil ?_
          refine n_then ?_
          refine c_region ?_
          refine s_y (y_move rfl) rfl rfl ?_
          refine s_y (y_move rfl) rfl rfl ?_
          refine wl_bool ob ?_ ?_
          · intro hb11
            rw [hb11]
            have hp12 : ob = true := by simpa using hb11
            clear hb11
            refine s_skip ⟨_, _, _, _, rfl, rfl, rfl, rfl⟩ rfl ?_
            refine s_skip ⟨_, _, _, _, rfl, rfl, rfl, rfl⟩ rfl ?_
            refine s_skip ⟨_, _, _, _, rfl, rfl, rfl, rfl⟩ rfl ?_
            refine s_skip ⟨_, _, _, _, rfl, rfl, rfl, rfl⟩ rfl ?_
            refine s_skip ⟨_, _, _, _, rfl, rfl, rfl, rfl⟩ rfl ?_
            refine s_skip ⟨_, _, _, _, rfl, rfl, rfl, rfl⟩ rfl ?_
            refine s_y (y_pick rfl rfl rfl rfl) rfl rfl ?_
            refine s_y (y_assign rfl) rfl rfl ?_
            refine s_nil ?_
            refine n_inb ?_
            refine n_then ?_
            refine c_region ?_
            refine s_y (y_add rfl rfl (wrI (by omega) (by omega))) rfl rfl ?_
            refine s_y (y_move rfl) rfl rfl ?_
            refine s_nil ?_
            exact fun a ha => ⟨_, by omega, j + 1, true, rfl, ha.cut ⟨rfl, rfl, rfl, rfl, rfl, rfl, rfl, rfl, (iv (by omega)), trivial⟩, hF9, hr, by omega, (by rw [any_succ _ 0 ks j (by omega), ← hob, show ob = true from by assumption]; rfl)⟩
          · intro hb11
            rw [hb11]
            have hp13 : ob = false := by simpa using hb11
            clear hb11
            refine s_gy (y_move rfl) ⟨_, _, _, _, rfl, rfl, rfl, rfl⟩ rfl ?_
            refine s_gy (y_move rfl) ⟨_, _, _, _, rfl, rfl, rfl, rfl⟩ rfl ?_
            refine s_gy (y_indexS (b := s.getD i 0) Tryd.underlying9 rfl rfl (by omega) (str_at s i (by omega))) ⟨_, _, _, _, rfl, rfl, rfl, rfl⟩ rfl ?_
            refine s_gd (d_callR T.ent127 (vs := [.int .u8 (↑(s.getD i 0).toNat)]) rfl (kind_ok (s.getD i 0) _) (by rintro e w' ⟨rfl, -⟩; exact ⟨_, rfl⟩)) ⟨_, _, _, _, rfl, rfl, rfl, rfl⟩ rfl ?_
            rintro v16 w14 ⟨hv17, f15⟩
            obtain rfl := ret_inj hv17
            replace hr := hr.fr0 f15
            have hF18 := hF9.then0 f15
            refine s_gy (y_move rfl) ⟨_, _, _, _, rfl, rfl, rfl, rfl⟩ rfl ?_
            refine s_gy (y_eql rfl rfl rfl) ⟨_, _, _, _, rfl, rfl, rfl, rfl⟩ rfl ?_
            refine s_y (y_pick rfl rfl rfl rfl) rfl rfl ?_
            refine s_y (y_assign rfl) rfl rfl ?_
            refine s_nil ?_
            refine n_inb ?_
            refine n_then ?_
            refine c_region ?_
            refine s_y (y_add rfl rfl (wrI (by omega) (by omega))) rfl rfl ?_
            refine s_y (y_move rfl) rfl rfl ?_
            refine s_nil ?_
            exact fun a ha => ⟨_, by omega, j + 1, decide (((kindL (s.getD i 0)) : Int) = (ks.getD j 0)), rfl, ha.cut ⟨rfl, rfl, rfl, rfl, rfl, rfl, rfl, rfl, (iv (by omega)), trivial⟩, hF18, hr, by omega, (by rw [any_succ _ 0 ks j (by omega), ← hob, show ob = false from by assumption]; rfl)⟩
        · intro h19
          replace h19 : ¬ ((↑j : Int) < ↑ks.length) := of_decide_eq_false h19
          refine c_exit ?_
          refine x_then ?_
          refine x_then ?_
          refine x_hit ?_
          refine n_then ?_
          refine c_seq ?_
          refine c_region ?_
          obtain rfl : j = ks.length := by omega
          rw [List.take_length] at hob
          have hkin : ob = kin ks (s.getD i 0) := hob
          refine s_y (y_move rfl) rfl rfl ?_
          refine s_y (y_not rfl rfl) rfl rfl ?_
          refine s_nil ?_
          refine n_then ?_
          refine c_cond rfl ?_ ?_
          · intro h20
            replace h20 : ob = false := by simpa using h20
            refine c_seq ?_
            refine c_region ?_
            refine s_y (y_assign rfl) rfl rfl ?_
            refine s_nil ?_
            refine n_then ?_
            refine c_ret ?_
            refine r_inb ?_
            refine r_then ?_
            refine r_then ?_
            refine r_inb ?_
            refine r_then ?_
            refine fin1 (by simp) rfl rfl ?_
            exact ⟨by rw [show onlyL s ks = false from all_no (kin ks) 0 s i (by omega) (by rw [← hkin]; assumption)], hF9⟩
          · intro h21
            replace h21 : ob = true := by simpa using h21
            have hin : kin ks (s.getD i 0) = true := by rw [← hkin]; assumption
            refine c_skip ?_
            refine n_inb ?_
            refine n_then ?_
            refine c_region ?_
            refine s_y (y_add rfl rfl (wrI (by omega) (by omega))) rfl rfl ?_
            refine s_y (y_move rfl) rfl rfl ?_
            refine s_nil ?_
            exact fun a ha => ⟨_, by omega, i + 1, rfl, ha.cut ⟨rfl, rfl, rfl, (iv (by omega)), trivial⟩, hF9, hr, by omega, (by rw [all_succ (kin ks) 0 s i (by omega), hall, Bool.true_and]; exact hin)⟩
    · intro h22
      replace h22 : ¬ ((↑i : Int) < ↑s.length) := of_decide_eq_false h22
      refine c_exit ?_
      refine x_then ?_
      refine x_then ?_
      refine x_hit ?_
      refine n_then ?_
      refine c_seq ?_
      refine c_region ?_
      refine s_y (y_assign rfl) rfl rfl ?_
      refine s_nil ?_
      refine n_then ?_
      refine c_ret ?_
      refine fin1 (by simp) rfl rfl ?_
      obtain rfl : i = s.length := by omega
      rw [List.take_length] at hall
      exact ⟨by rw [show onlyL s ks = true from hall], hF4⟩

end Go.Proofs.YtcnepgnfecoeoaaDoor
